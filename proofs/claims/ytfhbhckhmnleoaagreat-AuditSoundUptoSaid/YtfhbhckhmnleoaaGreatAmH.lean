/-
  Rounds of the law of audits: symbols, roots, pointers; the audit's check, and a collection, of such a heap. Proves nothing of any one statement.
-/
import Derived.Test.YtfhbhckhmnleoaaGreatAuW
set_option linter.unusedVariables false
set_option linter.unusedSimpArgs false
set_option maxRecDepth 100000
namespace Go.Proofs.YtfhbhckhmnleoaaGreat
open Go
open Go.ChangeShapes Go.WideShapes
variable{d z A E:Nat}{H B:zV}{i C D:zW}{j:Blk}{k:Hp}{o:Int->Nat}{r:List (Int×Int)}{u v:List Int}{F:gM}
theorem tt{Q:zV->Prop}(h:Gs H B j k o i d u C z v D E r)(ba:u.length<=100000)
    (hs:jX B A F) (hc:A ∉ j.all/\A ∉ kc i/\A ∉ kc C) (hA:SlOK 2 fZ maxLen H F.symbols) (b1:F.symbols.n<=400) (bc:v.length<=10000)
    (hQ: ∀(bk:zV) (s:zW) (I:Nat) (b:List Int) (U:Hp),Gs H bk j U o i d u s I b D E r->U.sp=k.sp->b.length<=v.length+400->jX bk A F->A ∉ kc s->B.size<=bk.size->Q bk):
    ∃(a1:zw) (ak:Int->zV->Nat),a1 0 B/\ ∀(m:Int) (l:zV),a1 m l->
     ∃an:zW,∃Z:Nat,∃ao:Nat,hat l ((Addr.mk A 0 none).add 2)=some (vs an Z ao)/\
     if m< (Z:Int)then(
      ∃x:zW,∃g:Nat,∃y:Nat,hat l ((Addr.mk j.h 0 none).add 1)=some (vs x g y)/\
      ∃P:zW,∃R:Nat,∃a8:Nat,hat l ((Addr.mk A 0 none).add 2)=some (vs P R a8)/\
      ∃O:Addr,P=some O/\
      ((0:Int)<=m/\m< (R:Int))/\
      ∃a0:Int,∃T:Int,aM l (O.add (Int.toNat m*2)) 0 [vu a0,vi T]/\
      bB.C a0 T i u.length d l (λaZ J=> ∃ap:Int,aZ=vu ap/\aM J ((Addr.mk j.h 0 none).add 1) 0 [vs x g y]/\
       ∀(aa:Nat) (K:zV),aa=J.size->K=J.push (.cells #[vu ap] 28)->aM K ((Addr.mk j.h 0 none).add 1) 0 [vs x g y]/\
       bI 1 28 8 [vu 0] x g y (some (Addr.mk aa 0 none)) 1 K (λa9 a2 L=>
        (aH L ((Addr.mk j.h 0 none).add 1) 0 1)/\ ∀V:zV,V=aP L ((Addr.mk j.h 0 none).add 1) [vs a9 (g+1) a2] 0->
        (a1 (IntKind.wrap .i64 (m+1)) V/\ak (IntKind.wrap .i64 (m+1)) V<ak m l))))
     else
     Q l:=by
  have hl:=hA.len
  refine⟨λbm bk=>(0<=bm/\bm<=F.symbols.n)/\ ∃(s:zW) (I:Nat) (b:List Int) (U:Hp),Gs H bk j U o i d u s I b D E r/\U.sp=k.sp/\(b.length:Int)=v.length+bm/\jX bk A F/\A ∉ kc s/\B.size<=bk.size,λbm _=>(F.symbols.n-bm).toNat,
    ⟨⟨by omega,by omega⟩,C,z,v,k,h,rfl,by omega,hs,hc.2.2,Nat.le_refl _⟩,?_⟩
  rintro bm bk ⟨hk,s,I,b,U,S,ac,b2,W,a3,ay⟩
  have Y:hat bk ((Addr.mk A 0 none).add 2)=some (vs F.symbols.p F.symbols.n F.symbols.c):=by rw[fD W.at'];rfl
  refine⟨_,_,_,Y,?_⟩
  by_cases a5:bm< (F.symbols.n:Int)
  case neg=>
    rw[za a5]
    exact hQ bk s I b U S ac (by omega) W a3 ay
  rw[qB a5]
  have ag:bm.toNat<F.symbols.xs.length:=by omega
  obtain⟨ka,aV,aW⟩:=hA.row bm.toNat ag
  have a6:fZ.ok maxLen H F.symbols.xs[bm.toNat]:=hA.each _ (List.getElem_mem ag)
  generalize F.symbols.xs[bm.toNat]=bn at*
  have al: ∀{bk:zV} {a:Addr} {bn:Value},hat bk a=some bn->aM bk a 0 [bn]:=λh=>⟨by rw[og];exact h,trivial⟩
  have M: ∀{A':zV},Ext bk A'->hat A' ((Addr.mk j.h 0 none).add 1)=some (vs s b.length I):=λe=>by rw[fD (e.get S.hp.h),<-S.sy];rfl
  refine⟨_,_,_,M (Ext.refl _),_,_,_,Y,ka,aV,⟨hk.1,a5⟩,_,_,S.e.rowAt aW,?_⟩
  have hd:((F.symbols.n:Int)-(bm+1)).toNat< ((F.symbols.n:Int)-bm).toNat:=by omega
  refine HC.mono (mc (wf_u64 a6.w) (wf_i64 a6.ofv) S.own) ?_
  rintro _ J ⟨rfl,ab⟩
  refine⟨_,rfl,al (M ab),λb3 K az X=>?_⟩
  have aw:Ext J K:=Ext.push' X
  have e:=ab.trans aw
  have gw:=mb (wf_u64 a6.w) (Of:=bn.ofv) (λw hw=>(S.good w hw).1)
  have gg:Good U.sp.mem o (yL bn.w bn.ofv u):=me (λw hw=>(S.good w hw).2.1)
  have gf:FW (yL bn.w bn.ofv u):=nS (λw hw=>(S.good w hw).2.2)
  generalize yL bn.w bn.ofv u=nw at*
  refine⟨al (M e),?_⟩
  refine cH (ys:=xT [nw]) (S.so.ext e) (eG (aF az X) _ 0 0 (λbl c=>by
    simp only[xT,List.map_cons,List.map_nil,List.length_cons,List.length_nil]at c
    obtain rfl:bl=0:=by omega
    rfl)) rfl (gK _) rfl (by omega) ?_
  intro p' c' L ai f ah
  have aj:HpAt L j U:=(S.hp.ext e).keep f (λbl c=>(S.hs bl c).2.1)
  obtain⟨p1,p2,t⟩:=aj.putSy2 (vs p' (b.length+1) c')
  refine⟨p1,λV ae=>?_⟩
  rw[<-ae]at p2 t
  rw[xl (n:=bm+1) (by omega)]
  have zA:=S.e.size
  have ze:=e.size
  have bf:=f.size
  have af: ∀bl∈j.all,bl<bk.size:=λbl c=>S.hp.lt bl c
  have N:j.h∈j.all:=by simp[Blk.all]
  have G: ∀bl∈kc p',H.size<=bl/\bl ∉ j.all/\bl ∉ kc i/\bl≠A/\bl ∉ kc D:=λbl c=>by
    rcases ah bl c with q | q
    · exact⟨(S.hs bl q).1,(S.hs bl q).2.1,(S.hs bl q).2.2,λe=>a3 (e▸q),λh=>(S.he bl h).2.2.2 q⟩
    · refine⟨by omega,λhb=>by have:=af bl hb;omega,λhm=>by have:=S.own.lt bl hm;omega,λe=>by have:=aS W.at';omega,λh=>by have:=S.eo.lt bl h;omega⟩
  have a4:(b++[nw]).length=b.length+1:=by simp
  refine⟨⟨⟨by omega,by omega⟩,p',c',b++[nw],{U with sy:=vs p' (b.length+1) c'},⟨((S.e.trans e).fr_trans f (λbl c=>(S.hs bl c).1)).fr_trans t (λbl c=>by simp at c;rw[c];exact S.hb _ N),p2,S.inv,S.snd,((S.own.ext e).keep f (λbl c q=>(S.hs bl q).2.2 c)).keep t (λbl c q=>by simp at q;rw[q]at c;exact(S.hm _ c).2 N),S.good,by rw[a4],?_,λw hw=>?_,S.en,((S.eo.ext e).keep f (λbl c q=>(S.he bl c).2.2.2 q)).keep t (λbl c q=>by simp at q;rw[q]at c;exact(S.he _ c).2.1 N),S.egood,S.hb,S.hm,λbl c=>⟨(G bl c).1,(G bl c).2.1,(G bl c).2.2.1⟩,λbl c=>⟨(S.he bl c).1,(S.he bl c).2.1,(S.he bl c).2.2.1,λq=>(G bl q).2.2.2.2 c⟩⟩,ac,by rw[a4];omega,((W.ext e).keep f a3).keep t (λq=>by simp at q;rw[q]at hc;exact hc.1 N),λq=>(G A q).2.2.2.1 rfl,by have:=t.size;omega⟩,hd⟩
  · rw[a4]
    have:Own L 28 1 p' (b.length+1) c' (xT (b++[nw])):=by unfold xT at ai⊢;rw[List.map_append];exact ai
    exact this.keep t (λbl c q=>by simp at q;rw[q]at c;exact(G _ c).2.1 N)
  · rcases List.mem_append.1 hw with q | q
    · exact S.sgood w q
    · simp at q;rw[q];exact⟨gw,gg,gf⟩
theorem qu{Q:zV->Prop}(h:Gs H B j k o i d u C z v D E r)(bs:u.length<=100000)
    (hs:jX B A F) (hc:A ∉ j.all/\A ∉ kc D) (hA:SlOK 4 po maxLen H F.guard) (bh:F.guard.n<=400) (br:r.length<=10000)
    (hQ: ∀(bP:zV) (t:zW) (J:Nat) (c:List (Int×Int)) (W:Hp),Gs H bP j W o i d u C z v t J c->W.sp=k.sp->c.length<=r.length+400->jX bP A F->B.size<=bP.size->Q bP):
     ∃(a7:zw) (au:Int->zV->Nat),a7 0 B/\ ∀(g:Int) (V:zV),a7 g V->
     ∃av:zW,∃a5:Nat,∃aw:Nat,hat V ((Addr.mk A 0 none).add 1)=some (vs av a5 aw)/\
     if((decide (g< (a5:Int))) && (decide ((u.length:Int)>0)))=true then(
      ∃m:zW,∃l:Nat,∃s:Nat,hat V ((Addr.mk j.h 0 none).add 2)=some (vs m l s)/\
      ∃a2:zW,∃a6:Nat,∃ax:Nat,hat V ((Addr.mk A 0 none).add 1)=some (vs a2 a6 ax)/\
      ∃a1:Addr,a2=some a1/\
      ((0:Int)<=g/\g< (a6:Int))/\
      ∃xW:Int,∃ay:Int,aM V (a1.add (Int.toNat g*4)) 0 [vu xW,vi ay]/\
      ∃a3:zW,∃T:Nat,∃a4:Nat,hat V ((Addr.mk A 0 none).add 1)=some (vs a3 T a4)/\
      ∃I:Addr,a3=some I/\
      ((0:Int)<=g/\g< (T:Int))/\
      ∃U:Int,∃y:Int,aM V ((I.add (Int.toNat g*4)).add 2) 0 [vu U,vi y]/\
      bB.C xW ay i u.length d V (λbc H8=> ∃k:Int,bc=vu k/\aM H8 ((Addr.mk j.h 0 none).add 2) 0 [vs m l s]/\aM H8 ((Addr.mk A 0 none).add 1) 0 [vs (some I) T a4]/\aM H8 ((I.add (Int.toNat g*4)).add 2) 0 [vu U,vi y]/\
       bB.C U y i u.length d H8 (λbd H9=> ∃az:Int,bd=vu az/\aM H9 ((Addr.mk j.h 0 none).add 2) 0 [vs m l s]/\
        ∀(ae:Nat) (M:zV),ae=H9.size->M=H9.push (.cells #[vu k,vu az] 36)->aM M ((Addr.mk j.h 0 none).add 2) 0 [vs m l s]/\
        bI 2 36 16 [vu 0,vu 0] m l s (some (Addr.mk ae 0 none)) 1 M (λap aW X=>
         (aH X ((Addr.mk j.h 0 none).add 2) 0 1)/\ ∀Y:zV,Y=aP X ((Addr.mk j.h 0 none).add 2) [vs ap (l+1) aW] 0->
         (a7 (IntKind.wrap .i64 (g+1)) Y/\au (IntKind.wrap .i64 (g+1)) Y<au g V)))))
     else
     Q V:=by
  have hl:=hA.len
  refine⟨λbR bP=>(0<=bR/\bR<=F.guard.n)/\ ∃(t:zW) (J:Nat) (c:List (Int×Int)) (W:Hp),Gs H bP j W o i d u C z v t J c/\W.sp=k.sp/\(c.length:Int)=r.length+bR/\jX bP A F/\A ∉ kc t/\B.size<=bP.size,λbR _=>(F.guard.n-bR).toNat,
    ⟨⟨by omega,by omega⟩,D,E,r,k,h,rfl,by omega,hs,hc.2,Nat.le_refl _⟩,?_⟩
  rintro bR bP ⟨hk,t,J,c,W,S,ah,bi,R,ak,b2⟩
  have N:hat bP ((Addr.mk A 0 none).add 1)=some (vs F.guard.p F.guard.n F.guard.c):=by rw[fD R.at'];rfl
  refine⟨_,_,_,N,?_⟩
  by_cases P:(decide (bR< (F.guard.n:Int)) && decide ((u.length:Int)>0))=true
  case neg=>
    rw[za P]
    exact hQ bP t J c W S ah (by omega) R b2
  rw[qB P]
  rw[Bool.and_eq_true,decide_eq_true_eq,decide_eq_true_eq]at P
  have al:bR.toNat<F.guard.xs.length:=by omega
  obtain⟨ka,a8,b8⟩:=hA.row bR.toNat al
  have K:po.ok maxLen H F.guard.xs[bR.toNat]:=hA.each _ (List.getElem_mem al)
  generalize F.guard.xs[bR.toNat]=bX at*
  have Z: ∀{bP:zV} {a:Addr} {bX:Value},hat bP a=some bX->aM bP a 0 [bX]:=λh=>⟨by rw[og];exact h,trivial⟩
  have G: ∀{A':zV},Ext bP A'->hat A' ((Addr.mk j.h 0 none).add 2)=some (vs t c.length J):=λe=>by rw[fD (e.get S.hp.h),<-S.en];rfl
  have aa:=S.e.rowAt b8
  have b7:aM bP (ka.add (bR.toNat*4)) 0 [vu bX.a.w,vi bX.a.ofv]:=⟨aa.1,aa.2.1,trivial⟩
  have ao:aM bP ((ka.add (bR.toNat*4)).add 2) 0 [vu bX.b.w,vi bX.b.ofv]:=kD λbQ bU b=>by
    have:=fY aa (2+bQ) bU (by
      rcases bQ with _ | _ | bQ
      · exact b
      · exact b
      · simp at b)
    rw[Nat.zero_add,iW,<-Nat.add_assoc]at*
    rw[<-iW]
    rw[<-iW,<-iW]at this
    rw[iW,iW]
    rw[iW,iW]at this
    exact this
  refine⟨_,_,_,G (Ext.refl _),_,_,_,N,ka,a8,⟨hk.1,P.1⟩,_,_,b7,_,_,_,N,ka,a8,⟨hk.1,P.1⟩,_,_,ao,?_⟩
  have hd:((F.guard.n:Int)-(bR+1)).toNat< ((F.guard.n:Int)-bR).toNat:=by omega
  refine HC.mono (mc (wf_u64 K.1.w) (wf_i64 K.1.ofv) S.own) ?_
  rintro _ H8 ⟨rfl,e8⟩
  have b9:=R.ext e8
  refine⟨_,rfl,Z (G e8),Z (by rw[<-a8,fD b9.at'];rfl),e8.rowAt ao,?_⟩
  refine HC.mono (mc (wf_u64 K.2.w) (wf_i64 K.2.ofv) (S.own.ext e8)) ?_
  rintro _ H9 ⟨rfl,e9⟩
  have ag:=e8.trans e9
  refine⟨_,rfl,Z (G ag),λbH M b3 a0=>?_⟩
  have b0:Ext H9 M:=Ext.push' a0
  have e:=ag.trans b0
  have vw: ∀{bU:k9},fZ.ok maxLen H bU->aD (yL bU.w bU.ofv u)/\Good W.sp.mem o (yL bU.w bU.ofv u)/\FW (yL bU.w bU.ofv u):=λ{bU} hu=>⟨mb (wf_u64 hu.w) (Of:=bU.ofv) (λw hw=>(S.good w hw).1),me (λw hw=>(S.good w hw).2.1),nS (λw hw=>(S.good w hw).2.2)⟩
  have w1:=vw K.1
  have w2:=vw K.2
  generalize yL bX.a.w bX.a.ofv u=n1 at*
  generalize yL bX.b.w bX.b.ofv u=n2 at*
  refine⟨Z (G e),?_⟩
  refine cH (ys:=[vu n1,vu n2]) (S.eo.ext e) (kf (aF b3 a0)) rfl rfl rfl (by omega) ?_
  intro p' c' X b6 f am
  have an:HpAt X j W:=(S.hp.ext e).keep f (λbQ b=>(S.he bQ b).2.1)
  obtain⟨p1,p2,x⟩:=an.putEn2 (vs p' (c.length+1) c')
  refine⟨p1,λY ai=>?_⟩
  rw[<-ai]at p2 x
  rw[xl (n:=bR+1) (by omega)]
  have zA:=S.e.size
  have ze:=e.size
  have bA:=f.size
  have aj: ∀bQ∈j.all,bQ<bP.size:=λbQ b=>S.hp.lt bQ b
  have O:j.h∈j.all:=by simp[Blk.all]
  have L: ∀bQ∈kc p',H.size<=bQ/\bQ ∉ j.all/\bQ ∉ kc i/\bQ ∉ kc C/\bQ≠A:=λbQ b=>by
    rcases am bQ b with q | q
    · exact⟨(S.he bQ q).1,(S.he bQ q).2.1,(S.he bQ q).2.2.1,(S.he bQ q).2.2.2,λe=>ak (e▸q)⟩
    · refine⟨by omega,λhb=>by have:=aj bQ hb;omega,λhm=>by have:=S.own.lt bQ hm;omega,λhm=>by have:=S.so.lt bQ hm;omega,λe=>by have:=aS R.at';omega⟩
  have a9:(c++[(n1,n2)]).length=c.length+1:=by simp
  refine⟨⟨⟨by omega,by omega⟩,p',c',c++[(n1,n2)],{W with en:=vs p' (c.length+1) c'},⟨((S.e.trans e).fr_trans f (λbQ b=>(S.he bQ b).1)).fr_trans x (λbQ b=>by simp at b;rw[b];exact S.hb _ O),p2,S.inv,S.snd,((S.own.ext e).keep f (λbQ b q=>(S.he bQ q).2.2.1 b)).keep x (λbQ b q=>by simp at q;rw[q]at b;exact(S.hm _ b).2 O),S.good,S.sy,((S.so.ext e).keep f (λbQ b q=>(S.he bQ q).2.2.2 b)).keep x (λbQ b q=>by simp at q;rw[q]at b;exact(S.hs _ b).2.1 O),S.sgood,by rw[a9],?_,λen b5=>?_,S.hb,S.hm,S.hs,λbQ b=>⟨(L bQ b).1,(L bQ b).2.1,(L bQ b).2.2.1,(L bQ b).2.2.2.1⟩⟩,ah,by rw[a9];omega,((R.ext e).keep f ak).keep x (λq=>by simp at q;rw[q]at hc;exact hc.1 O),λq=>(L A q).2.2.2.2 rfl,by have:=x.size;omega⟩,hd⟩
  · rw[a9,sP]
    exact b6.keep x (λbQ b q=>by simp at q;rw[q]at b;exact(L _ b).2.1 O)
  · rcases List.mem_append.1 b5 with q | q
    · exact S.egood en q
    · simp at q;rw[q];exact⟨⟨⟨w1.1,w1.2.1⟩,w2.1,w2.2.1⟩,w1.2.2,w2.2.2⟩
theorem rV{Q:zW->Nat->Nat->zV->Prop}(h:Gs H B j k o i d u C z v D E r)(b8:u.length<=100000)(hs:jX B A F)
    (hQ: ∀(bh:zV) (M:zW) (W:Nat) (b:List Int),Ext B bh->Own bh 28 1 M b.length W (xT b)->(∀bi∈kc M,B.size<=bi)->(∀w∈b,w∈u)->b.length<=u.length->Q M b.length W bh):
    ∃(G:zW->Nat->Nat->zw) (x:zW->Nat->Nat->Int->zV->Nat),G none 0 0 0 B/\ ∀(c:zW) (a:Nat) (e:Nat) (l:Int) (s:zV),G c a e l s->
    if l< (u.length:Int)then(
     ∃ah:zW,hat s (Addr.mk j.h 0 none)=some (vp ah)/\
     ∃m:Addr,i=some m/\
     ((0:Int)<=l/\l< (u.length:Int))/\
     ∃ai:Int,hat s (m.add (Int.toNat l*1))=some (vu ai)/\
     dY.C ah ai s (λaz a3=> ∃X:Int,∃Y:Bool,az=.tuple #[vi X,.bool Y]/\
      ∃aj:Int,hat a3 ((Addr.mk A 0 none).add 5)=some (.int .u32 aj)/\
      cX.C aj l a3 (λaU p=> ∃ak:Bool,aU=.bool ak/\
       if ak=true then(
        ((0:Int)<=l/\l< (u.length:Int))/\
        ∃al:Int,hat p (m.add (Int.toNat l*1))=some (vu al)/\
        ∀(K:Nat) (y:zV),K=p.size->y=p.push (.cells #[vu al] 28)->
        bI 1 28 8 [vu 0] c a e (some (Addr.mk K 0 none)) 1 y (λbl O I=>
         (G bl (a+1) O (IntKind.wrap .i64 (l+1)) I/\x bl (a+1) O (IntKind.wrap .i64 (l+1)) I<x c a e l s)))
       else
       if Y=true then(
        ∃am:Int,hat p ((Addr.mk A 0 none).add 3)=some (vi am)/\
        if X>am then(
         ((0:Int)<=l/\l< (u.length:Int))/\
         ∃a0:Int,hat p (m.add (Int.toNat l*1))=some (vu a0)/\
         ∀(a8:Nat) (a4:zV),a8=p.size->a4=p.push (.cells #[vu a0] 28)->
         bI 1 28 8 [vu 0] c a e (some (Addr.mk a8 0 none)) 1 a4 (λR J a5=>
          (G R (a+1) J (IntKind.wrap .i64 (l+1)) a5/\x R (a+1) J (IntKind.wrap .i64 (l+1)) a5<x c a e l s)))
        else
        (G c a e (IntKind.wrap .i64 (l+1)) p/\x c a e (IntKind.wrap .i64 (l+1)) p<x c a e l s))
       else
       (G c a e (IntKind.wrap .i64 (l+1)) p/\x c a e (IntKind.wrap .i64 (l+1)) p<x c a e l s))))
    else
    Q c a e s:=by
  refine⟨λM rN W bj bh=>(0<=bj/\bj<=u.length)/\ ∃b:List Int,rN=b.length/\Ext B bh/\Own bh 28 1 M b.length W (xT b)/\(∀bi∈kc M,B.size<=bi)/\(∀w∈b,w∈u)/\(b.length:Int)<=bj,λ_ _ _ bj _=>(u.length-bj).toNat,
    ⟨⟨by omega,by omega⟩,[],rfl,Ext.refl _,gZ,λbi hj=>by simp at hj,λw hw=>by simp at hw,by simp⟩,?_⟩
  rintro M rN W bj bh ⟨hk,b,rfl,eA,ho,P,a1,aZ⟩
  by_cases L:bj< (u.length:Int)
  case neg=>
    rw[za L]
    exact hQ bh M W b eA ho P a1 (by omega)
  rw[qB L]
  have ag:bj.toNat<u.length:=by omega
  have V:=List.getElem_mem ag
  obtain⟨ma,av,U⟩:=lX (h.own.src.ext eA) ag
  have hp:=h.hp.ext eA
  refine⟨_,hp.hPtr,ma,av,⟨hk.1,L⟩,_,U,?_⟩
  generalize u[bj.toNat]=w at*
  have hd:((u.length:Int)-(bj+1)).toNat< ((u.length:Int)-bj).toNat:=by omega
  rw[xl (n:=bj+1) (by omega)]
  refine HC.mono (pA hp.cd (h.good w V).1) ?_
  rintro _ N ⟨rfl,e1⟩
  have ac:hat N ((Addr.mk A 0 none).add 5)=some (.int .u32 F.keep):=by rw[fD (hs.ext (eA.trans e1)).at'];rfl
  refine⟨_,_,rfl,_,ac,?_⟩
  refine HC.mono (wb hk.1) ?_
  rintro _ A2 ⟨⟨t,rfl⟩,ap⟩
  obtain rfl:N=A2:=ap.symm
  have e2:=eA.trans e1
  have Z:(((0<=bj+1/\bj+1<=u.length)/\ ∃f:List Int,b.length=f.length/\Ext B N/\Own N 28 1 M f.length W (xT f)/\(∀bi∈kc M,B.size<=bi)/\(∀w∈f,w∈u)/\(f.length:Int)<=bj+1)/\((u.length:Int)-(bj+1)).toNat< ((u.length:Int)-bj).toNat):=
    ⟨⟨⟨by omega,by omega⟩,b,rfl,e2,ho.ext e1,P,a1,by omega⟩,hd⟩
  have a6: ∀(K:Nat) (y:zV),K=N.size->y=N.push (.cells #[vu w] 28)->bI 1 28 8 [vu 0] M b.length W (some (Addr.mk K 0 none)) 1 y (λbl O I=>
      (((0<=bj+1/\bj+1<=u.length)/\ ∃f:List Int,b.length+1=f.length/\Ext B I/\Own I 28 1 bl f.length O (xT f)/\(∀bi∈kc bl,B.size<=bi)/\(∀w∈f,w∈u)/\(f.length:Int)<=bj+1)/\((u.length:Int)-(bj+1)).toNat< ((u.length:Int)-bj).toNat)):=λb2 y au S=>by
    have e5:Ext N y:=Ext.push' S
    refine cH (ys:=xT [w]) ((ho.ext e1).ext e5) (eG (aF au S) _ 0 0 (λbi hj=>by
      simp only[xT,List.map_cons,List.map_nil,List.length_cons,List.length_nil]at hj
      obtain rfl:bi=0:=by omega
      rfl)) rfl (gK _) rfl (by omega) ?_
    intro B' c' H6 ay f6 aw
    have z5:=e5.size
    have z2:=e2.size
    have a2:(b++[w]).length=b.length+1:=by simp
    refine⟨⟨⟨by omega,by omega⟩,b++[w],a2.symm,(e2.trans e5).fr_trans f6 P,by rw[a2];simpa[xT]using ay,λbi hj=>?_,λbk hv=>?_,by rw[a2];omega⟩,hd⟩
    · rcases aw bi hj with q | q
      · exact P bi q
      · omega
    · rcases List.mem_append.1 hv with q | q
      · exact a1 bk q
      · simp at q;rw[q];exact V
  refine⟨_,rfl,?_⟩
  have T:hat N (ma.add (bj.toNat*1))=some (vu w):=e1.hat U
  by_cases ht:t=true
  · rw[qB ht]
    exact⟨⟨hk.1,L⟩,_,T,a6⟩
  rw[za ht]
  by_cases hg:(k.sp.mem.genOf w).2=true
  · rw[qB hg]
    have ab:hat N ((Addr.mk A 0 none).add 3)=some (vi F.g):=by rw[fD (hs.ext e2).at'];rfl
    refine⟨_,ab,?_⟩
    by_cases ae:(k.sp.mem.genOf w).1>F.g
    · rw[qB ae]
      exact⟨⟨hk.1,L⟩,_,T,a6⟩
    · rw[za ae];exact Z
  · rw[za hg];exact Z
theorem tu(a:Addr)(n:Nat):zy 0 a n++[Vq (a.add (n*1))]=zy 0 a (n+1):=by
  unfold zy
  rw[List.range_succ,List.map_append,List.append_assoc];rfl
theorem tw{Q:zW->Nat->Nat->zV->Prop}(J:0<d-> ∃a,i=some a)(T:d<=100000000)
    (K: ∀(A:zV) (B:zW) (c:Nat),Ext H A->eF A B (zy 0 (i.getD default) d)->(∀j∈kc B,H.size<=j/\j<A.size)->Q B d c A):
    ∃(f:zW->Nat->Nat->zw) (l:zW->Nat->Nat->Int->zV->Nat),f none 0 0 0 H/\ ∀(x:zW) (p:Nat) (y:Nat) (b:Int) (e:zV),f x p y b e->
       if b< (d:Int)then(
        ∃v:Addr,i=some v/\
        ((0:Int)<=b/\b< (d:Int))/\
        ∀(t:Nat) (r:zV),t=e.size->r=e.push (.cells #[Vq (v.add (Int.toNat b*1))] 91)->
        bI 1 91 8 [vp none] x p y (some (Addr.mk t 0 none)) 1 r (λh g s=>
         (f h (p+1) g (IntKind.wrap .i64 (b+1)) s/\l h (p+1) g (IntKind.wrap .i64 (b+1)) s<l x p y b e)))
       else
       Q x p y e:=by
  refine⟨λB n c W A=>(0<=W/\W<=d)/\n=W.toNat/\Ext H A/\Own A 91 1 B W.toNat c (zy 0 (i.getD default) W.toNat)/\(∀j∈kc B,H.size<=j),λ_ _ _ W _=>(d-W).toNat,
    ⟨⟨by omega,by omega⟩,rfl,Ext.refl _,gZ,λj k=>by simp at k⟩,?_⟩
  rintro B n c W A ⟨M,rfl,C,w,D⟩
  by_cases m:W< (d:Int)
  case neg=>
    rw[za m]
    rw[show W.toNat=d by omega]at w⊢
    exact K A B c C w.src (λj k=>⟨D j k,w.lt j k⟩)
  rw[qB m]
  obtain⟨a,rfl⟩:=J (by omega)
  refine⟨a,rfl,⟨M.1,m⟩,λR G E u=>?_⟩
  have z:Ext A G:=Ext.push' u
  have L:((d:Int)-(W+1)).toNat< ((d:Int)-W).toNat:=by omega
  rw[xl (n:=W+1) (by omega)]
  refine cH (ys:=[Vq (a.add (Int.toNat W*1))]) (w.ext z) (eG (aF E u) _ 0 0 (λj k=>by
    simp only[List.length_cons,List.length_nil]at k
    obtain rfl:j=0:=by omega
    rfl)) rfl rfl rfl (by omega) ?_
  intro O S P o I F
  have U:=z.size
  have V:=C.size
  have N:zy 0 ((some a).getD default) W.toNat++[Vq (a.add (Int.toNat W*1))]=zy 0 ((some a).getD default) (W+1).toNat:=by
    rw[show(W+1).toNat=W.toNat+1 by omega];exact tu a W.toNat
  rw[N]at o
  refine⟨⟨⟨by omega,by omega⟩,by omega,(C.trans z).fr_trans I D,by rw[show(W+1).toNat=W.toNat+1 by omega]at o⊢;exact o,λj k=>?_⟩,L⟩
  rcases F j k with q | q
  · exact D j q
  · omega
theorem rp(S:Gs H B j k o i d u C z v D A r)(I:u.length<=100000)(K:v.length<=100000)(G:r.length<=100000):
    fG.C (some ⟨j.h,0,none⟩) i u.length d B (λN g=>N=.tuple #[vi 0,vi 0]/\Ext B g):=by
  have m: ∀w∈gE u v r,aD w/\Good k.sp.mem o w/\FW w:=λw b=>by
    unfold gE at b
    rcases List.mem_append.1 b with q | q
    · rcases List.mem_append.1 q with q | q
      · exact S.good w q
      · exact S.sgood w q
    · obtain⟨e,F,b⟩:=List.mem_flatMap.1 q
      obtain⟨⟨⟨n,s⟩,t,x⟩,y,E⟩:=S.egood e F
      simp at b
      rcases b with rfl | rfl
      · exact⟨n,s,y⟩
      · exact⟨t,x,E⟩
  refine HC.mono (rR (syms:=v) (es:=r) S.hp S.inv.ok ⟨⟨C,z,S.sy,S.so.src⟩,⟨D,A,S.en,S.eo.entries⟩,⟨by omega,by omega⟩⟩ S.own.src rfl (by omega) (λw b=>(m w b).1) (λl c p J=>?_) (wa S.inv)) ?_
  · obtain⟨a,L,_,e⟩:=(ny S.inv S.snd c).1 p J
    rw[e];omega
  · rintro N g ⟨l,M,c,f,rfl,e⟩
    rw[xR S.inv S.snd c f m]
    exact⟨rfl,e⟩
theorem wu(S:Gs H B j k o i d u C z v D A r)(f:u.length<=100000):
    iR.C (some ⟨j.h,0,none⟩) i u.length d B (λm b=> ∃L:List Int,(∃l,L=gL k.sp.mem u l/\L.length=l)/\m=vi (li k.sp.mem L)/\li k.sp.mem L<=k.sp.mem.words []/\Ext B b):=by
  refine HC.mono (wh (roots:=u) S.hp S.inv.ok ⟨rfl,S.own.src,λy g=>?_⟩ (by omega) (λw a=>(S.good w a).1) S.own.lt) ?_
  · have:=(S.good y g).1
    exact rn this
  · rintro m b ⟨L,c,rfl,e⟩
    exact⟨L,c,rfl,xp S.inv S.snd (λw a=>⟨(S.good w a).1,(S.good w a).2.1⟩) c,e⟩
variable{d:Hp}{i:Int->Nat}{j:List (Int×Int)}{k o:List Int}{r u v:Nat}{H z:zV}{A B C G:zW}{D:Blk}{E F:Int}
theorem Gs.sub{p:zV}{a:List Int}{l:Nat}(S:Gs H z D d i A r k B u o G l j)(e:Ext z p)(m:Own p 28 1 C a.length v (xT a))(f: ∀q∈kc C,z.size<=q)(g: ∀w∈a,w∈k):Gs H p D d i C v a B u o G l j:=by
 have c: ∀q∈D.all,q<z.size:=λq b=>S.hp.lt q b
 have s:=S.e.size
 exact⟨S.e.trans e,S.hp.ext e,S.inv,S.snd,m,λw n=>S.good w (g w n),S.sy,S.so.ext e,S.sgood,S.en,S.eo.ext e,S.egood,S.hb,λq b=>⟨by have:=f q b;omega,λh=>by have:=c q h;have:=f q b;omega⟩,λq b=>⟨(S.hs q b).1,(S.hs q b).2.1,λh=>by have:=S.so.lt q b;have:=f q h;omega⟩,λq b=>⟨(S.he q b).1,(S.he q b).2.1,λh=>by have:=S.eo.lt q b;have:=f q h;omega,(S.he q b).2.2.2⟩⟩
theorem uV{s:Sp}{a:Int}(h:iJ s E F a≠0):iJ s E F a=1\/iJ s E F a=2:=by
 unfold iJ at h⊢
 split
 ·exact .inl rfl
 ·split
  ·exact .inr rfl
  ·rename_i b c;rw[za b,za c]at h;exact absurd rfl h
theorem uu.gs{H':zV}{b:Blk}(S:Gs H z b d i A r k B u o C v j){g T:Int}{V:Int->Prop}{q:Int->Option Int}{P:List Int}{p:Int->Option Int}{al:List Int}{y:Int->Nat}{f:Tr}{s3 s4 s5:Sp}{D:List (Int×Int)}
  (W:uu (λax ws=>ws.length=k.length/\Own ax 28 1 A k.length r (xT ws)) (kc A) z H' b d i g T k j o V q P p al y f s3 s4 s5 D):
  ∃(x':Hp) (a1:zW) (a2:Nat) (L:zW) (M:Nat),x'.sp=s5/\Gs H H' b x' (zF f.old y) A r (k.map (Fw f.old p)) a1 a2 (oO f.old p o) L M D:=by
 have t:=W.col.t
 obtain⟨ay,c,oB,oC,R,U,x,Q,s,N⟩:=W.at'
 obtain⟨ak,Y⟩:=W.own
 have aU:=S.e.size
 have n: ∀az∈b.all,az<z.size:=λaz a=>S.hp.lt az a
 have E: ∀w,aD w->Good d.sp.mem i w->Dn f.old p w->aD (Fw f.old p w)/\Good s5.mem (zF f.old y) (Fw f.old p w):=λw h1 h2 h3=>⟨t.tri.fw_word t.S h1,(t.good h1 h2 h3).1⟩
 refine⟨_,ay,c,oB,oC,rfl,⟨S.e.fr_trans W.fr (λaz a=>?_),R,W.col.inv,t.snd S.snd,by rw[List.length_map];exact Y,λw X=>?_,rfl,U,λw X=>?_,rfl,Q,λe he=>?_,S.hb,S.hm,λaz a=>⟨?_,?_,?_⟩,λaz a=>⟨?_,?_,?_,λh=>N az h a⟩⟩⟩
 ·rcases List.mem_append.1 a with q | q
  ·exact S.hb az q
  ·exact(S.hm az q).1
 ·obtain⟨m,l,rfl⟩:=List.mem_map.1 X
  obtain⟨F,G,I⟩:=S.good m l
  obtain⟨J,K⟩:=E m F G (t.roots m (W.kept m l))
  exact⟨J,K,nW I⟩
 ·obtain⟨m,l,rfl⟩:=List.mem_map.1 X
  obtain⟨q1,Z⟩:=List.mem_filter.1 l
  obtain⟨r1,r2,r3⟩:=S.sgood m q1
  have hd:Dn f.old p m:=λho=>by
   unfold rf at Z
   rw[zQ (show ¬ ¬aO f.old m from λq=>q ho)]at Z
   exact Option.isSome_iff_exists.1 (by simpa using Z)
  obtain⟨J,K⟩:=E m r1 r2 hd
  exact⟨J,K,nW r3⟩
 ·obtain⟨e0,O,rfl,d1,d2⟩:=W.ents.1 e he
  obtain⟨⟨⟨F,G⟩,I,a4⟩,a5,a6⟩:=S.egood e0 O
  exact⟨⟨E _ F G d1,E _ I a4 d2⟩,nW a5,nW a6⟩
 ·have:=x az a;omega
 ·intro h;have:=n az h;have:=x az a;omega
 ·intro h;have:=S.own.lt az h;have:=x az a;omega
 ·have:=s az a;omega
 ·intro h;have:=n az h;have:=s az a;omega
 ·intro h;have:=S.own.lt az h;have:=s az a;omega
theorem uW(O:Nat->Bool)(a:Int->Option Int)(l:List Int):(oO O a l).length<=l.length:=by
 unfold oO
 rw[List.length_map]
 exact List.length_filter_le _ _
theorem ww{c:List Int}(S:Gs H z D d i A r o B u c C v j)(L:d.sp.cf<=100000)(R:o.length<=100000)(T:c.length<=100000)(N:j.length<=100000)(O:zO E)(K:zO F)
   {s pC:Nat} (m:eF z G (zy 0 (A.getD default) o.length)) (Q:s=o.length) (l: ∀a0∈kc G,a0 ∉ D.all/\a0 ∉ kc A/\a0<z.size):
  iQ.C (some ⟨D.h,0,none⟩) E F G s pC z (λa1 g=>(∃e:Int,a1=vi e/\(e=1\/e=2)/\Ext z g)\/
   (a1=vi 0/\ ∃(V:Int->Prop) (q:Int->Option Int) (P:List Int) (y:Int->Option Int) (x:List Int) (p:Int->Nat) (Y:Tr) (U W X:Sp) (n:List (Int×Int)),uu (λZ t=>t.length=o.length/\Own Z 28 1 A o.length r (xT t)) (kc A) z g D d i E F o j c V q P y x p Y U W X n)):=by
 refine HC.mono (rM (Cel.own A o.length r) (k:=0) (pC:=pC) S.hp S.inv (by omega) S.en S.eo (λa0 a=>⟨(S.he a0 a).2.1,(S.he a0 a).2.2.1⟩) (λe M=>(S.egood e M).1) (by omega) S.sy S.so (λa0 a=>⟨(S.hs a0 a).2.1,(S.hs a0 a).2.2⟩) (λw f=>⟨(S.sgood w f).1,(S.sgood w f).2.1⟩) (by omega) O K ⟨rfl,S.own⟩ (λa0 a=>(S.hm a0 a).2) m (by omega) l (λw f=>⟨(S.good w f).1,(S.good w f).2.1⟩) (by omega)) ?_
 rintro a1 g ⟨I,J⟩
 by_cases b:iJ d.sp E F ((j.length / 32+1:Nat):Int)=0
 case neg=>
  obtain⟨rfl,e⟩:=I b
  exact .inl ⟨_,rfl,uV b,e⟩
 exact .inr (J b)
theorem xr(S:Gs H z D d i A r k B u o C v j)(t:d.sp.cf<=100000)(J:k.length<=100000)(K:o.length<=100000)(w:j.length<=100000)(N:zO E)(M:zO F)
   {L R:Nat} (I:eF z G (zy 0 (A.getD default) k.length)) (y:L=k.length) (x: ∀a2∈kc G,a2 ∉ D.all/\a2 ∉ kc A/\a2<z.size):
  iQ.C (some ⟨D.h,0,none⟩) E F G L R z (λa3 s=>(∃e:Int,a3=vi e/\(e=1\/e=2)/\Ext z s)\/
   (a3=vi 0/\ ∃(p:Hp) (n:Int->Nat) (g:zW) (l:Nat) (a:List Int) (b:zW) (c:Nat) (m:List (Int×Int)) (f:Int->Int),Gs H s D p n A r (k.map f) g l a b c m/\a.length<=o.length/\m.length<=j.length/\p.sp.cf<=d.sp.cf+1024)):=by
 refine HC.mono (ww S t J K w N M I y x) ?_
 rintro a3 s (h | ⟨rfl,V,q,P,U,T,n,tr,X,Y,Z,Q,W⟩)
 ·exact .inl h
 obtain⟨p,g,l,b,c,O,a1⟩:=W.gs S
 exact .inr ⟨rfl,p,_,g,l,_,b,c,_,_,a1,uW _ _ _,W.ents.2,by rw[O];exact W.cf⟩
def rq(H0 A:zV)(b:Blk)(i:Int)(mB:zW)(mN mC:Nat):Prop:=
 ∃(x:Hp) (sz:Int->Nat) (made:List Int) (sB:zW) (sC:Nat) (syl:List Int) (eB:zW) (eC:Nat) (el:List (Int×Int)),mN=made.length/\Gs H0 A b x sz mB mC made sB sC syl eB eC el/\x.sp.cf<=1024+1024*i/\(made.length:Int)<=401*i/\(syl.length:Int)<=400*i/\(el.length:Int)<=400*i
theorem Gs.some{f H:zV}{b:Blk}{x:Hp}{sz:Int->Nat}{e m:zW}{l n:Nat}{c d:List Int}{g:zW}{i:Nat}{j:List (Int×Int)}(S:Gs f H b x sz e l c m n d g i j)(h:0<c.length): ∃a,e=some a:=by
 obtain⟨a,k,_⟩:=lX S.own.src h
 exact⟨a,k⟩
theorem xt{H g:zV}{b:Blk}{f:Hp}{l:Nat}(V:View g (some ⟨b.h,0,none⟩) (some (b,f)))(d:f=⟨⟨Mem.fresh l,λ_ _=>0⟩,VN,VN,0⟩)(e:Ext H g)(n: ∀j∈b.all,H.size<=j)(o:l<=1024):
  rq H g b 0 none 0 0:=by
 obtain⟨-,k,m⟩:=V.inv
 have c: ∀a,¬f.sp.mem.used a:=λa h=>by
  rw[d]at h
  exact absurd rfl h.2.1.2.2
 refine⟨f,λ_=>0,[],none,0,[],none,0,[],rfl,⟨e,k,⟨m,by rw[d];exact tK _,?_,λa h=>absurd h (c a)⟩,⟨λa h=>absurd h (c a),λa i h=>absurd rfl h⟩,gZ,λw h=>by simp at h,by rw[d];rfl,gZ,λw h=>by simp at h,by rw[d];rfl,gZ,λe h=>by simp at h,n,λj h=>by simp at h,λj h=>by simp at h,λj h=>by simp at h⟩,?_,by simp,by simp,by simp⟩
 ·exact⟨λa h=>absurd rfl h,λa b h=>absurd rfl h,λa h=>absurd rfl h,λa h=>absurd rfl h,λa h=>absurd h (c a)⟩
 ·rw[d]
  show(0:Int)+((l:Nat):Int)<=1024+1024*0
  omega
set_option maxRecDepth 100000 in
set_option maxHeartbeats 1000000 in
theorem wx{H:zV}{l:Int}{s:Sl gM}(hl:zO l)(A:SlOK 6 lc maxLen H s)(F:xx s.xs):
  dQ.C l s.p s.n s.c H (λv H'=>(v=.tuple #[vp none,VN,VT]/\Ext H H')\/ ∃b J mN N,v=.tuple #[vp (some ⟨b.h,0,none⟩),vs J mN N,VT]/\rq H H' b s.n J mN N):=by
 refine HC.via λR hR=>dQ.link ?_
 unfold dQ.pt zY
 refine HC.mono (qL hl) ?_
 rintro _ H1 (⟨hc,rfl,e1⟩ | ⟨hc,b,x0,rfl,V1,hx,e1,b6⟩)
 ·refine⟨_,_,rfl,?_⟩
  rw[za (by decide)]
  exact hR _ _ (.inl ⟨rfl,e1⟩)
 refine⟨_,_,rfl,?_⟩
 rw[qB rfl,onPtr_some]
 have bA:=A.len
 have bL:=F.1
 refine⟨λJ mN N i M=>(0<=i/\i<=s.n)/\rq H M b i J mN N,λ_ _ _ i _=>(s.n-i).toNat,⟨⟨by omega,by omega⟩,xt V1 hx e1 b6 (by omega)⟩,?_⟩
 rintro J mN N i A1 ⟨hi,hG⟩
 by_cases G:i< (s.n:Int)
 case neg=>
  rw[za G]
  rw[show i=(s.n:Int)by omega]at hG
  exact hR _ _ (.inr ⟨b,J,mN,N,rfl,hG⟩)
 rw[qB G]
 obtain⟨x,sz,bN,sB,sC,cM,eB,eC,el,rfl,S,cp,cv,cw,cr⟩:=hG
 have E:i.toNat<s.xs.length:=by omega
 obtain⟨la,ba,a5⟩:=A.row i.toNat E
 have d:gM.OK maxLen H s.xs[i.toNat]:=A.each _ (List.getElem_mem E)
 have D:=F.2 _ (List.getElem_mem E)
 generalize s.xs[i.toNat]=r at*
 have hd:((s.n:Int)-(i+1)).toNat< ((s.n:Int)-i).toNat:=by omega
 rw[xl (n:=i+1) (by omega)]
 refine⟨la,ba,⟨hi.1,G⟩,_,_,_,_,_,_,_,_,_,_,_,_,S.e.rowAt a5,?_⟩
 intro c H3 b8 Q
 obtain⟨p1,p2⟩:=kg (n:=6) (vs:=[vs r.acts.p r.acts.n r.acts.c,vs r.guard.p r.guard.n r.guard.c,vs r.symbols.p r.symbols.n r.symbols.c,vi r.g,vi r.target,.int .u32 r.keep]) (aF b8 Q) rfl rfl
 refine⟨p1,λH4 b5=>?_⟩
 obtain⟨g4,f4⟩:=p2 H4 b5
 have e3:Ext A1 H3:=Ext.push' Q
 have e4:Ext A1 H4:=e3.fr_trans f4 (λj q=>by simp at q;omega)
 have S4:=S.ext e4
 have a6:jX H4 c r:=⟨g4⟩
 have V: ∀j∈b.all,j<A1.size:=λj q=>S.hp.lt j q
 have z:c ∉ b.all:=λh=>by have:=V c h;omega
 have W:c ∉ b.all/\c ∉ kc J/\c ∉ kc sB:=⟨z,λh=>by have:=S.own.lt c h;omega,λh=>by have:=S.so.lt c h;omega⟩
 refine te S4 (by omega) rfl (by omega) a6 W d.acts D.1 ?_
 intro A5 bc bd m x5 bl S5 br bB a7 Y cz
 have b9:c ∉ kc eB:=λh=>by have:=S.eo.lt c h;omega
 refine qu S5 (by omega) a7 ⟨z,b9⟩ d.guard D.2.2 (by omega) ?_
 intro bZ aU aZ b2 cR ak w bz I bM
 refine tt ak (by omega) I ⟨z,Y,W.2.2⟩ d.symbols D.2.1 (by omega) ?_
 intro A6 bf bi ac x6 S6 P bb t bw cA
 have bs:x6.sp.cf=x5.sp.cf:=by rw[P,w]
 refine HC.mono (rp S6 (by omega) (by omega) (by omega)) ?_
 rintro _ A7 ⟨rfl,e7⟩
 refine⟨_,_,rfl,?_⟩
 rw[qB rfl]
 have S7:=S6.ext e7
 refine rV S7 (by omega) (t.ext e7) ?_
 intro A8 rB rC o e8 a3 b7 a1 bH
 have S8:=S7.sub e8 a3 b7 a1
 have M8:=S7.ext e8
 have a9:=(t.ext e7).ext e8
 refine tw S8.some (by omega) ?_
 intro A9 pB pC e9 a4 k
 have S9:=S8.ext e9
 have M9:=M8.ext e9
 have u:=a9.ext e9
 have T:hat A9 ((Addr.mk c 0 none).add 3)=some (vi r.g):=by rw[fD u.at'];rfl
 have U:hat A9 ((Addr.mk c 0 none).add 4)=some (vi r.target):=by rw[fD u.at'];rfl
 refine⟨_,T,_,U,?_⟩
 have y: ∀j∈b.all,j<A8.size:=λj q=>S8.hp.lt j q
 refine HC.mono (R:=λv M=> ∃e:Int,v=vi e/\(e=0->rq H M b (i+1) rB o.length rC)/\(e≠0->rq H M b (i+1) bc m.length bd)) (HC.mono (xr S9 (by omega) (by omega) (by omega) (by omega) (wf_i64 d.g) (wf_i64 d.target) a4 rfl (λj q=>⟨λh=>by have:=y j h;have:=(k j q).1;omega,λh=>by have:=a3.lt j h;have:=(k j q).1;omega,(k j q).2⟩)) ?_) ?_
 ·rintro v ah (⟨e,rfl,Z,ao⟩ | ⟨rfl,x',bk,be,bh,ab,az,aW,b1,f,aj,h1,h3,h2⟩)
  ·refine⟨e,rfl,λh=>by omega,λ_=>⟨x6,bl,m,bf,bi,ac,aU,aZ,b2,rfl,M9.ext ao,by omega,by omega,by omega,by omega⟩⟩
  ·refine⟨0,rfl,λ_=>⟨x',bk,o.map f,be,bh,ab,az,aW,b1,by rw[List.length_map],aj,by omega,by rw[List.length_map];omega,by omega,by omega⟩,λh=>absurd rfl h⟩
 rintro _ ah ⟨e,rfl,hy,hn⟩
 refine⟨e,rfl,λB n cc M=>rq H M b (i+1) B n cc,?_,?_⟩
 ·by_cases Z:e=0
  ·rw[qB Z];exact hy Z
  ·rw[za Z];exact hn Z
 rintro cC cE cD bQ ⟨x7,bm,K,bg,bj,ae,aV,b0,b3,rfl,T7,X,a2,a8,a0⟩
 refine HC.mono (rp T7 (by omega) (by omega) (by omega)) ?_
 rintro _ bR ⟨rfl,ap⟩
 refine⟨_,_,rfl,?_⟩
 rw[qB rfl]
 have T8:=T7.ext ap
 have aa: ∀{A:zV} {a:Addr} {v:Value},hat A a=some v->aM A a 0 [v]:=λh=>⟨by rw[og];exact h,trivial⟩
 refine⟨_,T8.hp.hPtr,_,rfl,_,T8.hp.cd.cPtr,?_⟩
 refine HC.mono (wu T8 (by omega)) ?_
 rintro _ bU ⟨L,hL,rfl,cu,au⟩
 have O:=T8.ext au
 refine⟨_,rfl,aa O.hp.hPtr,aa O.hp.cd.cPtr,?_⟩
 refine HC.mono (qk (gs:=[]) O.hp.cd.sp O.inv.ok (by rw[SrcAt_none];rfl) rfl (by decide)) ?_
 rintro _ bX ⟨rfl,av⟩
 refine⟨_,rfl,?_⟩
 rw[za (by omega)]
 exact⟨⟨⟨by omega,by omega⟩,x7,bm,K,bg,bj,ae,aV,b0,b3,rfl,O.ext av,X,a2,a8,a0⟩,hd⟩
