/-
  Rounds of the law of audits: symbols, roots, pointers; the audit's check, and a collection, of such a heap. Proves nothing of any one statement.
-/
import Derived.Test.YtfhbhckhmnleoaaGreatAuW
set_option linter.unusedVariables false
set_option linter.unusedSimpArgs false
set_option maxRecDepth 100000
namespace Go.Proofs.YtfhbhckhmnleoaaGreat
open Go
open Go.ChangeShapes Go.WideShapes
variable{d z A E:Nat}{H B:zV}{i C D:zW}{j:Blk}{k:Hp}{o:Int->Nat}{r:List (Int×Int)}{u v:List Int}{F:gP}
theorem tJ{Q:zV->Prop}(h:Gs H B j k o i d u C z v D E r)(bb:u.length<=100000)
    (hs:j3 B A F) (hc:A ∉ j.all/\A ∉ kd i/\A ∉ kd C) (hA:SlOK 2 gF maxLen H F.symbols) (b2:F.symbols.n<=400) (bd:v.length<=10000)
    (hQ: ∀(bl:zV) (s:zW) (I:Nat) (b:List Int) (U:Hp),Gs H bl j U o i d u s I b D E r->U.sp=k.sp->b.length<=v.length+400->j3 bl A F->A ∉ kd s->B.size<=bl.size->Q bl):
    ∃(a1:zw) (ak:Int->zV->Nat),a1 0 B/\ ∀(m:Int) (l:zV),a1 m l->
     ∃an:zW,∃Z:Nat,∃ao:Nat,hat l ((Addr.mk A 0 none).add 2)=some (vs an Z ao)/\
     if m< (Z:Int)then(
      ∃x:zW,∃g:Nat,∃y:Nat,hat l ((Addr.mk j.h 0 none).add 1)=some (vs x g y)/\
      ∃P:zW,∃R:Nat,∃a8:Nat,hat l ((Addr.mk A 0 none).add 2)=some (vs P R a8)/\
      ∃O:Addr,P=some O/\
      ((0:Int)<=m/\m< (R:Int))/\
      ∃a0:Int,∃T:Int,aL l (O.add (Int.toNat m*2)) 0 [vu a0,vi T]/\
      bC.C a0 T i u.length d l (λb0 J=> ∃ap:Int,b0=vu ap/\aL J ((Addr.mk j.h 0 none).add 1) 0 [vs x g y]/\
       ∀(aa:Nat) (K:zV),aa=J.size->K=J.push (.cells #[vu ap] 28)->aL K ((Addr.mk j.h 0 none).add 1) 0 [vs x g y]/\
       bH 1 28 8 [vu 0] x g y (some (Addr.mk aa 0 none)) 1 K (λa9 a2 L=>
        (aH L ((Addr.mk j.h 0 none).add 1) 0 1)/\ ∀V:zV,V=aP L ((Addr.mk j.h 0 none).add 1) [vs a9 (g+1) a2] 0->
        (a1 (IntKind.wrap .i64 (m+1)) V/\ak (IntKind.wrap .i64 (m+1)) V<ak m l))))
     else
     Q l:=by
  have hl:=hA.len
  refine⟨λbn bl=>(0<=bn/\bn<=F.symbols.n)/\ ∃(s:zW) (I:Nat) (b:List Int) (U:Hp),Gs H bl j U o i d u s I b D E r/\U.sp=k.sp/\(b.length:Int)=v.length+bn/\j3 bl A F/\A ∉ kd s/\B.size<=bl.size,λbn _=>(F.symbols.n-bn).toNat,
    ⟨⟨by omega,by omega⟩,C,z,v,k,h,rfl,by omega,hs,hc.2.2,CU _⟩,?_⟩
  rintro bn bl ⟨hk,s,I,b,U,S,ac,b3,W,a3,ay⟩
  have Y:hat bl ((Addr.mk A 0 none).add 2)=some (vs F.symbols.p F.symbols.n F.symbols.c):=by rw[fG W.at'];rfl
  refine⟨_,_,_,Y,?_⟩
  by_cases a5:bn< (F.symbols.n:Int)
  case neg=>
    rw[za a5]
    exact hQ bl s I b U S ac (by omega) W a3 ay
  rw[qB a5]
  have ag:bn.toNat<F.symbols.xs.length:=by omega
  obtain⟨ka,aV,aW⟩:=hA.row bn.toNat ag
  have a6:gF.ok maxLen H F.symbols.xs[bn.toNat]:=hA.each _ (CS ag)
  generalize F.symbols.xs[bn.toNat]=bo at*
  have al: ∀{bl:zV} {a:Addr} {bo:Value},hat bl a=some bo->aL bl a 0 [bo]:=λh=>⟨by rw[m7];exact h,EO⟩
  have M: ∀{A':zV},Ext bl A'->hat A' ((Addr.mk j.h 0 none).add 1)=some (vs s b.length I):=λe=>by rw[fG (e.get S.hp.h),<-S.sy];rfl
  refine⟨_,_,_,M (CW _),_,_,_,Y,ka,aV,⟨hk.1,a5⟩,_,_,S.e.rowAt aW,?_⟩
  have hd:((F.symbols.n:Int)-(bn+1)).toNat< ((F.symbols.n:Int)-bn).toNat:=by omega
  refine HC.mono (mj (wf_u64 a6.w) (wf_i64 a6.ofv) S.own) ?_
  rintro _ J ⟨rfl,ab⟩
  refine⟨_,rfl,al (M ab),λbh K az X=>?_⟩
  have aw:Ext J K:=CI X
  have e:=ab.trans aw
  have gw:=mi (wf_u64 a6.w) (Of:=bo.ofv) (λw hw=>(S.good w hw).1)
  have gg:Good U.sp.mem o (zg bo.w bo.ofv u):=ml (λw hw=>(S.good w hw).2.1)
  have gf:FW (zg bo.w bo.ofv u):=oc (λw hw=>(S.good w hw).2.2)
  generalize zg bo.w bo.ofv u=nw at*
  refine⟨al (M e),?_⟩
  refine cI (ys:=yE [nw]) (S.so.ext e) (eJ (aF az X) _ 0 0 (λbm c=>by
    simp only[yE,List.map_cons,List.map_nil,List.length_cons,List.length_nil]at c
    obtain rfl:bm=0:=by omega
    rfl)) rfl (gO _) rfl (by omega) ?_
  intro p' c' L ai f ah
  have aj:HpAt L j U:=(S.hp.ext e).keep f (λbm c=>(S.hs bm c).2.1)
  obtain⟨p1,p2,t⟩:=aj.putSy2 (vs p' (b.length+1) c')
  refine⟨p1,λV ae=>?_⟩
  rw[<-ae]at p2 t
  rw[xT (n:=bn+1) (by omega)]
  have zA:=S.e.size
  have ze:=e.size
  have bg:=f.size
  have af: ∀bm∈j.all,bm<bl.size:=λbm c=>S.hp.lt bm c
  have N:j.h∈j.all:=by simp[Blk.all]
  have G: ∀bm∈kd p',H.size<=bm/\bm ∉ j.all/\bm ∉ kd i/\bm≠A/\bm ∉ kd D:=λbm c=>by
    rcases ah bm c with q | q
    · exact⟨(S.hs bm q).1,(S.hs bm q).2.1,(S.hs bm q).2.2,λe=>a3 (e▸q),λh=>(S.he bm h).2.2.2 q⟩
    · refine⟨by omega,λhb=>by have:=af bm hb;omega,λhm=>by have:=S.own.lt bm hm;omega,λe=>by have:=aS W.at';omega,λh=>by have:=S.eo.lt bm h;omega⟩
  have a4:(b++[nw]).length=b.length+1:=by simp
  refine⟨⟨⟨by omega,by omega⟩,p',c',b++[nw],{U with sy:=vs p' (b.length+1) c'},⟨((S.e.trans e).fr_trans f (λbm c=>(S.hs bm c).1)).fr_trans t (λbm c=>by simp at c;rw[c];exact S.hb _ N),p2,S.inv,S.snd,((S.own.ext e).keep f (λbm c q=>(S.hs bm q).2.2 c)).keep t (λbm c q=>by simp at q;rw[q]at c;exact(S.hm _ c).2 N),S.good,by rw[a4],?_,λw hw=>?_,S.en,((S.eo.ext e).keep f (λbm c q=>(S.he bm c).2.2.2 q)).keep t (λbm c q=>by simp at q;rw[q]at c;exact(S.he _ c).2.1 N),S.egood,S.hb,S.hm,λbm c=>⟨(G bm c).1,(G bm c).2.1,(G bm c).2.2.1⟩,λbm c=>⟨(S.he bm c).1,(S.he bm c).2.1,(S.he bm c).2.2.1,λq=>(G bm q).2.2.2.2 c⟩⟩,ac,by rw[a4];omega,((W.ext e).keep f a3).keep t (λq=>by simp at q;rw[q]at hc;exact hc.1 N),λq=>(G A q).2.2.2.1 rfl,by have:=t.size;omega⟩,hd⟩
  · rw[a4]
    have:Own L 28 1 p' (b.length+1) c' (yE (b++[nw])):=by unfold yE at ai⊢;rw[C7];exact ai
    exact this.keep t (λbm c q=>by simp at q;rw[q]at c;exact(G _ c).2.1 N)
  · rcases CM.1 hw with q | q
    · exact S.sgood w q
    · simp at q;rw[q];exact⟨gw,gg,gf⟩
theorem qM{Q:zV->Prop}(h:Gs H B j k o i d u C z v D E r)(bu:u.length<=100000)
    (hs:j3 B A F) (hc:A ∉ j.all/\A ∉ kd D) (hA:SlOK 4 pJ maxLen H F.guard) (bi:F.guard.n<=400) (bs:r.length<=10000)
    (hQ: ∀(bO:zV) (t:zW) (J:Nat) (c:List (Int×Int)) (W:Hp),Gs H bO j W o i d u C z v t J c->W.sp=k.sp->c.length<=r.length+400->j3 bO A F->B.size<=bO.size->Q bO):
     ∃(a7:zw) (au:Int->zV->Nat),a7 0 B/\ ∀(g:Int) (V:zV),a7 g V->
     ∃av:zW,∃a5:Nat,∃aw:Nat,hat V ((Addr.mk A 0 none).add 1)=some (vs av a5 aw)/\
     if((decide (g< (a5:Int))) && (decide ((u.length:Int)>0)))=true then(
      ∃m:zW,∃l:Nat,∃s:Nat,hat V ((Addr.mk j.h 0 none).add 2)=some (vs m l s)/\
      ∃a2:zW,∃a6:Nat,∃ax:Nat,hat V ((Addr.mk A 0 none).add 1)=some (vs a2 a6 ax)/\
      ∃a1:Addr,a2=some a1/\
      ((0:Int)<=g/\g< (a6:Int))/\
      ∃xW:Int,∃ay:Int,aL V (a1.add (Int.toNat g*4)) 0 [vu xW,vi ay]/\
      ∃a3:zW,∃T:Nat,∃a4:Nat,hat V ((Addr.mk A 0 none).add 1)=some (vs a3 T a4)/\
      ∃I:Addr,a3=some I/\
      ((0:Int)<=g/\g< (T:Int))/\
      ∃U:Int,∃y:Int,aL V ((I.add (Int.toNat g*4)).add 2) 0 [vu U,vi y]/\
      bC.C xW ay i u.length d V (λbd H8=> ∃k:Int,bd=vu k/\aL H8 ((Addr.mk j.h 0 none).add 2) 0 [vs m l s]/\aL H8 ((Addr.mk A 0 none).add 1) 0 [vs (some I) T a4]/\aL H8 ((I.add (Int.toNat g*4)).add 2) 0 [vu U,vi y]/\
       bC.C U y i u.length d H8 (λbe H9=> ∃az:Int,be=vu az/\aL H9 ((Addr.mk j.h 0 none).add 2) 0 [vs m l s]/\
        ∀(ae:Nat) (M:zV),ae=H9.size->M=H9.push (.cells #[vu k,vu az] 36)->aL M ((Addr.mk j.h 0 none).add 2) 0 [vs m l s]/\
        bH 2 36 16 [vu 0,vu 0] m l s (some (Addr.mk ae 0 none)) 1 M (λap aW X=>
         (aH X ((Addr.mk j.h 0 none).add 2) 0 1)/\ ∀Y:zV,Y=aP X ((Addr.mk j.h 0 none).add 2) [vs ap (l+1) aW] 0->
         (a7 (IntKind.wrap .i64 (g+1)) Y/\au (IntKind.wrap .i64 (g+1)) Y<au g V)))))
     else
     Q V:=by
  have hl:=hA.len
  refine⟨λbS bO=>(0<=bS/\bS<=F.guard.n)/\ ∃(t:zW) (J:Nat) (c:List (Int×Int)) (W:Hp),Gs H bO j W o i d u C z v t J c/\W.sp=k.sp/\(c.length:Int)=r.length+bS/\j3 bO A F/\A ∉ kd t/\B.size<=bO.size,λbS _=>(F.guard.n-bS).toNat,
    ⟨⟨by omega,by omega⟩,D,E,r,k,h,rfl,by omega,hs,hc.2,CU _⟩,?_⟩
  rintro bS bO ⟨hk,t,J,c,W,S,ah,bj,R,ak,b3⟩
  have N:hat bO ((Addr.mk A 0 none).add 1)=some (vs F.guard.p F.guard.n F.guard.c):=by rw[fG R.at'];rfl
  refine⟨_,_,_,N,?_⟩
  by_cases P:(decide (bS< (F.guard.n:Int)) && decide ((u.length:Int)>0))=true
  case neg=>
    rw[za P]
    exact hQ bO t J c W S ah (by omega) R b3
  rw[qB P]
  rw[CZ,CN,CN]at P
  have al:bS.toNat<F.guard.xs.length:=by omega
  obtain⟨ka,a8,b9⟩:=hA.row bS.toNat al
  have K:pJ.ok maxLen H F.guard.xs[bS.toNat]:=hA.each _ (CS al)
  generalize F.guard.xs[bS.toNat]=bU at*
  have Z: ∀{bO:zV} {a:Addr} {bU:Value},hat bO a=some bU->aL bO a 0 [bU]:=λh=>⟨by rw[m7];exact h,EO⟩
  have G: ∀{A':zV},Ext bO A'->hat A' ((Addr.mk j.h 0 none).add 2)=some (vs t c.length J):=λe=>by rw[fG (e.get S.hp.h),<-S.en];rfl
  have aa:=S.e.rowAt b9
  have b8:aL bO (ka.add (bS.toNat*4)) 0 [vu bU.a.w,vi bU.a.ofv]:=⟨aa.1,aa.2.1,EO⟩
  have ao:aL bO ((ka.add (bS.toNat*4)).add 2) 0 [vu bU.b.w,vi bU.b.ofv]:=kL λbR bT b=>by
    have:=gE aa (2+bR) bT (by
      rcases bR with _ | _ | bR
      · exact b
      · exact b
      · simp at b)
    rw[CQ,iW,<-Nat.add_assoc]at*
    rw[<-iW]
    rw[<-iW,<-iW]at this
    rw[iW,iW]
    rw[iW,iW]at this
    exact this
  refine⟨_,_,_,G (CW _),_,_,_,N,ka,a8,⟨hk.1,P.1⟩,_,_,b8,_,_,_,N,ka,a8,⟨hk.1,P.1⟩,_,_,ao,?_⟩
  have hd:((F.guard.n:Int)-(bS+1)).toNat< ((F.guard.n:Int)-bS).toNat:=by omega
  refine HC.mono (mj (wf_u64 K.1.w) (wf_i64 K.1.ofv) S.own) ?_
  rintro _ H8 ⟨rfl,e8⟩
  have ba:=R.ext e8
  refine⟨_,rfl,Z (G e8),Z (by rw[<-a8,fG ba.at'];rfl),e8.rowAt ao,?_⟩
  refine HC.mono (mj (wf_u64 K.2.w) (wf_i64 K.2.ofv) (S.own.ext e8)) ?_
  rintro _ H9 ⟨rfl,e9⟩
  have ag:=e8.trans e9
  refine⟨_,rfl,Z (G ag),λbI M b4 a0=>?_⟩
  have b1:Ext H9 M:=CI a0
  have e:=ag.trans b1
  have vw: ∀{bT:lj},gF.ok maxLen H bT->aD (zg bT.w bT.ofv u)/\Good W.sp.mem o (zg bT.w bT.ofv u)/\FW (zg bT.w bT.ofv u):=λ{bT} hu=>⟨mi (wf_u64 hu.w) (Of:=bT.ofv) (λw hw=>(S.good w hw).1),ml (λw hw=>(S.good w hw).2.1),oc (λw hw=>(S.good w hw).2.2)⟩
  have w1:=vw K.1
  have w2:=vw K.2
  generalize zg bU.a.w bU.a.ofv u=n1 at*
  generalize zg bU.b.w bU.b.ofv u=n2 at*
  refine⟨Z (G e),?_⟩
  refine cI (ys:=[vu n1,vu n2]) (S.eo.ext e) (kl (aF b4 a0)) rfl rfl rfl (by omega) ?_
  intro p' c' X b7 f am
  have an:HpAt X j W:=(S.hp.ext e).keep f (λbR b=>(S.he bR b).2.1)
  obtain⟨p1,p2,x⟩:=an.putEn2 (vs p' (c.length+1) c')
  refine⟨p1,λY ai=>?_⟩
  rw[<-ai]at p2 x
  rw[xT (n:=bS+1) (by omega)]
  have zA:=S.e.size
  have ze:=e.size
  have bB:=f.size
  have aj: ∀bR∈j.all,bR<bO.size:=λbR b=>S.hp.lt bR b
  have O:j.h∈j.all:=by simp[Blk.all]
  have L: ∀bR∈kd p',H.size<=bR/\bR ∉ j.all/\bR ∉ kd i/\bR ∉ kd C/\bR≠A:=λbR b=>by
    rcases am bR b with q | q
    · exact⟨(S.he bR q).1,(S.he bR q).2.1,(S.he bR q).2.2.1,(S.he bR q).2.2.2,λe=>ak (e▸q)⟩
    · refine⟨by omega,λhb=>by have:=aj bR hb;omega,λhm=>by have:=S.own.lt bR hm;omega,λhm=>by have:=S.so.lt bR hm;omega,λe=>by have:=aS R.at';omega⟩
  have a9:(c++[(n1,n2)]).length=c.length+1:=by simp
  refine⟨⟨⟨by omega,by omega⟩,p',c',c++[(n1,n2)],{W with en:=vs p' (c.length+1) c'},⟨((S.e.trans e).fr_trans f (λbR b=>(S.he bR b).1)).fr_trans x (λbR b=>by simp at b;rw[b];exact S.hb _ O),p2,S.inv,S.snd,((S.own.ext e).keep f (λbR b q=>(S.he bR q).2.2.1 b)).keep x (λbR b q=>by simp at q;rw[q]at b;exact(S.hm _ b).2 O),S.good,S.sy,((S.so.ext e).keep f (λbR b q=>(S.he bR q).2.2.2 b)).keep x (λbR b q=>by simp at q;rw[q]at b;exact(S.hs _ b).2.1 O),S.sgood,by rw[a9],?_,λen b6=>?_,S.hb,S.hm,S.hs,λbR b=>⟨(L bR b).1,(L bR b).2.1,(L bR b).2.2.1,(L bR b).2.2.2.1⟩⟩,ah,by rw[a9];omega,((R.ext e).keep f ak).keep x (λq=>by simp at q;rw[q]at hc;exact hc.1 O),λq=>(L A q).2.2.2.2 rfl,by have:=x.size;omega⟩,hd⟩
  · rw[a9,tf]
    exact b7.keep x (λbR b q=>by simp at q;rw[q]at b;exact(L _ b).2.1 O)
  · rcases CM.1 b6 with q | q
    · exact S.egood en q
    · simp at q;rw[q];exact⟨⟨⟨w1.1,w1.2.1⟩,w2.1,w2.2.1⟩,w1.2.2,w2.2.2⟩
theorem sq{Q:zW->Nat->Nat->zV->Prop}(h:Gs H B j k o i d u C z v D E r)(b9:u.length<=100000)(hs:j3 B A F)
    (hQ: ∀(bi:zV) (M:zW) (W:Nat) (b:List Int),Ext B bi->Own bi 28 1 M b.length W (yE b)->(∀bj∈kd M,B.size<=bj)->(∀w∈b,w∈u)->b.length<=u.length->Q M b.length W bi):
    ∃(G:zW->Nat->Nat->zw) (x:zW->Nat->Nat->Int->zV->Nat),G none 0 0 0 B/\ ∀(c:zW) (a:Nat) (e:Nat) (l:Int) (s:zV),G c a e l s->
    if l< (u.length:Int)then(
     ∃ah:zW,hat s (Addr.mk j.h 0 none)=some (vp ah)/\
     ∃m:Addr,i=some m/\
     ((0:Int)<=l/\l< (u.length:Int))/\
     ∃ai:Int,hat s (m.add (Int.toNat l*1))=some (vu ai)/\
     eD.C ah ai s (λaz a3=> ∃X:Int,∃Y:Bool,az=.tuple #[vi X,.bool Y]/\
      ∃aj:Int,hat a3 ((Addr.mk A 0 none).add 5)=some (.int .u32 aj)/\
      cZ.C aj l a3 (λaU p=> ∃ak:Bool,aU=.bool ak/\
       if ak=true then(
        ((0:Int)<=l/\l< (u.length:Int))/\
        ∃al:Int,hat p (m.add (Int.toNat l*1))=some (vu al)/\
        ∀(K:Nat) (y:zV),K=p.size->y=p.push (.cells #[vu al] 28)->
        bH 1 28 8 [vu 0] c a e (some (Addr.mk K 0 none)) 1 y (λbm O I=>
         (G bm (a+1) O (IntKind.wrap .i64 (l+1)) I/\x bm (a+1) O (IntKind.wrap .i64 (l+1)) I<x c a e l s)))
       else
       if Y=true then(
        ∃am:Int,hat p ((Addr.mk A 0 none).add 3)=some (vi am)/\
        if X>am then(
         ((0:Int)<=l/\l< (u.length:Int))/\
         ∃a0:Int,hat p (m.add (Int.toNat l*1))=some (vu a0)/\
         ∀(a8:Nat) (a4:zV),a8=p.size->a4=p.push (.cells #[vu a0] 28)->
         bH 1 28 8 [vu 0] c a e (some (Addr.mk a8 0 none)) 1 a4 (λR J a5=>
          (G R (a+1) J (IntKind.wrap .i64 (l+1)) a5/\x R (a+1) J (IntKind.wrap .i64 (l+1)) a5<x c a e l s)))
        else
        (G c a e (IntKind.wrap .i64 (l+1)) p/\x c a e (IntKind.wrap .i64 (l+1)) p<x c a e l s))
       else
       (G c a e (IntKind.wrap .i64 (l+1)) p/\x c a e (IntKind.wrap .i64 (l+1)) p<x c a e l s))))
    else
    Q c a e s:=by
  refine⟨λM rN W bk bi=>(0<=bk/\bk<=u.length)/\ ∃b:List Int,rN=b.length/\Ext B bi/\Own bi 28 1 M b.length W (yE b)/\(∀bj∈kd M,B.size<=bj)/\(∀w∈b,w∈u)/\(b.length:Int)<=bk,λ_ _ _ bk _=>(u.length-bk).toNat,
    ⟨⟨by omega,by omega⟩,[],rfl,CW _,gI,λbj hj=>by simp at hj,λw hw=>by simp at hw,by simp⟩,?_⟩
  rintro M rN W bk bi ⟨hk,b,rfl,eA,ho,P,a1,b0⟩
  by_cases L:bk< (u.length:Int)
  case neg=>
    rw[za L]
    exact hQ bi M W b eA ho P a1 (by omega)
  rw[qB L]
  have ag:bk.toNat<u.length:=by omega
  have V:=CS ag
  obtain⟨ma,av,U⟩:=mb (h.own.src.ext eA) ag
  have hp:=h.hp.ext eA
  refine⟨_,hp.hPtr,ma,av,⟨hk.1,L⟩,_,U,?_⟩
  generalize u[bk.toNat]=w at*
  have hd:((u.length:Int)-(bk+1)).toNat< ((u.length:Int)-bk).toNat:=by omega
  rw[xT (n:=bk+1) (by omega)]
  refine HC.mono (pR hp.cd (h.good w V).1) ?_
  rintro _ N ⟨rfl,e1⟩
  have ac:hat N ((Addr.mk A 0 none).add 5)=some (.int .u32 F.keep):=by rw[fG (hs.ext (eA.trans e1)).at'];rfl
  refine⟨_,_,rfl,_,ac,?_⟩
  refine HC.mono (wx hk.1) ?_
  rintro _ A2 ⟨⟨t,rfl⟩,ap⟩
  obtain rfl:N=A2:=ap.symm
  have e2:=eA.trans e1
  have Z:(((0<=bk+1/\bk+1<=u.length)/\ ∃f:List Int,b.length=f.length/\Ext B N/\Own N 28 1 M f.length W (yE f)/\(∀bj∈kd M,B.size<=bj)/\(∀w∈f,w∈u)/\(f.length:Int)<=bk+1)/\((u.length:Int)-(bk+1)).toNat< ((u.length:Int)-bk).toNat):=
    ⟨⟨⟨by omega,by omega⟩,b,rfl,e2,ho.ext e1,P,a1,by omega⟩,hd⟩
  have a6: ∀(K:Nat) (y:zV),K=N.size->y=N.push (.cells #[vu w] 28)->bH 1 28 8 [vu 0] M b.length W (some (Addr.mk K 0 none)) 1 y (λbm O I=>
      (((0<=bk+1/\bk+1<=u.length)/\ ∃f:List Int,b.length+1=f.length/\Ext B I/\Own I 28 1 bm f.length O (yE f)/\(∀bj∈kd bm,B.size<=bj)/\(∀w∈f,w∈u)/\(f.length:Int)<=bk+1)/\((u.length:Int)-(bk+1)).toNat< ((u.length:Int)-bk).toNat)):=λb2 y au S=>by
    have e5:Ext N y:=CI S
    refine cI (ys:=yE [w]) ((ho.ext e1).ext e5) (eJ (aF au S) _ 0 0 (λbj hj=>by
      simp only[yE,List.map_cons,List.map_nil,List.length_cons,List.length_nil]at hj
      obtain rfl:bj=0:=by omega
      rfl)) rfl (gO _) rfl (by omega) ?_
    intro B' c' H6 ay f6 aw
    have z5:=e5.size
    have z2:=e2.size
    have a2:(b++[w]).length=b.length+1:=by simp
    refine⟨⟨⟨by omega,by omega⟩,b++[w],a2.symm,(e2.trans e5).fr_trans f6 P,by rw[a2];simpa[yE]using ay,λbj hj=>?_,λbl hv=>?_,by rw[a2];omega⟩,hd⟩
    · rcases aw bj hj with q | q
      · exact P bj q
      · omega
    · rcases CM.1 hv with q | q
      · exact a1 bl q
      · simp at q;rw[q];exact V
  refine⟨_,rfl,?_⟩
  have T:hat N (ma.add (bk.toNat*1))=some (vu w):=e1.hat U
  by_cases ht:t=true
  · rw[qB ht]
    exact⟨⟨hk.1,L⟩,_,T,a6⟩
  rw[za ht]
  by_cases hg:(k.sp.mem.genOf w).2=true
  · rw[qB hg]
    have ab:hat N ((Addr.mk A 0 none).add 3)=some (vi F.g):=by rw[fG (hs.ext e2).at'];rfl
    refine⟨_,ab,?_⟩
    by_cases ae:(k.sp.mem.genOf w).1>F.g
    · rw[qB ae]
      exact⟨⟨hk.1,L⟩,_,T,a6⟩
    · rw[za ae];exact Z
  · rw[za hg];exact Z
theorem tK(a:Addr)(n:Nat):zR 0 a n++[Vq (a.add (n*1))]=zR 0 a (n+1):=by
  unfold zR
  rw[DP,C7,DL];rfl
theorem pf{Q:zW->Nat->Nat->zV->Prop}(J:0<d-> ∃a,i=some a)(T:d<=100000000)
    (K: ∀(A:zV) (B:zW) (c:Nat),Ext H A->dO A B (zR 0 (i.getD default) d)->(∀j∈kd B,H.size<=j/\j<A.size)->Q B d c A):
    ∃(f:zW->Nat->Nat->zw) (l:zW->Nat->Nat->Int->zV->Nat),f none 0 0 0 H/\ ∀(x:zW) (p:Nat) (y:Nat) (b:Int) (e:zV),f x p y b e->
       if b< (d:Int)then(
        ∃v:Addr,i=some v/\
        ((0:Int)<=b/\b< (d:Int))/\
        ∀(t:Nat) (r:zV),t=e.size->r=e.push (.cells #[Vq (v.add (Int.toNat b*1))] 91)->
        bH 1 91 8 [vp none] x p y (some (Addr.mk t 0 none)) 1 r (λh g s=>
         (f h (p+1) g (IntKind.wrap .i64 (b+1)) s/\l h (p+1) g (IntKind.wrap .i64 (b+1)) s<l x p y b e)))
       else
       Q x p y e:=by
  refine⟨λB n c W A=>(0<=W/\W<=d)/\n=W.toNat/\Ext H A/\Own A 91 1 B W.toNat c (zR 0 (i.getD default) W.toNat)/\(∀j∈kd B,H.size<=j),λ_ _ _ W _=>(d-W).toNat,
    ⟨⟨by omega,by omega⟩,rfl,CW _,gI,λj k=>by simp at k⟩,?_⟩
  rintro B n c W A ⟨M,rfl,C,w,D⟩
  by_cases m:W< (d:Int)
  case neg=>
    rw[za m]
    rw[show W.toNat=d by omega]at w⊢
    exact K A B c C w.src (λj k=>⟨D j k,w.lt j k⟩)
  rw[qB m]
  obtain⟨a,rfl⟩:=J (by omega)
  refine⟨a,rfl,⟨M.1,m⟩,λR G E u=>?_⟩
  have z:Ext A G:=CI u
  have L:((d:Int)-(W+1)).toNat< ((d:Int)-W).toNat:=by omega
  rw[xT (n:=W+1) (by omega)]
  refine cI (ys:=[Vq (a.add (Int.toNat W*1))]) (w.ext z) (eJ (aF E u) _ 0 0 (λj k=>by
    simp only[List.length_cons,List.length_nil]at k
    obtain rfl:j=0:=by omega
    rfl)) rfl rfl rfl (by omega) ?_
  intro O S P o I F
  have U:=z.size
  have V:=C.size
  have N:zR 0 ((some a).getD default) W.toNat++[Vq (a.add (Int.toNat W*1))]=zR 0 ((some a).getD default) (W+1).toNat:=by
    rw[show(W+1).toNat=W.toNat+1 by omega];exact tK a W.toNat
  rw[N]at o
  refine⟨⟨⟨by omega,by omega⟩,by omega,(C.trans z).fr_trans I D,by rw[show(W+1).toNat=W.toNat+1 by omega]at o⊢;exact o,λj k=>?_⟩,L⟩
  rcases F j k with q | q
  · exact D j q
  · omega
theorem rH(S:Gs H B j k o i d u C z v D A r)(I:u.length<=100000)(K:v.length<=100000)(G:r.length<=100000):
    fI.C (some ⟨j.h,0,none⟩) i u.length d B (λN g=>N=.tuple #[vi 0,vi 0]/\Ext B g):=by
  have m: ∀w∈gG u v r,aD w/\Good k.sp.mem o w/\FW w:=λw b=>by
    unfold gG at b
    rcases CM.1 b with q | q
    · rcases CM.1 q with q | q
      · exact S.good w q
      · exact S.sgood w q
    · obtain⟨e,F,b⟩:=Dv.1 q
      obtain⟨⟨⟨n,s⟩,t,x⟩,y,E⟩:=S.egood e F
      simp at b
      rcases b with rfl | rfl
      · exact⟨n,s,y⟩
      · exact⟨t,x,E⟩
  refine HC.mono (si (syms:=v) (es:=r) S.hp S.inv.ok ⟨⟨C,z,S.sy,S.so.src⟩,⟨D,A,S.en,S.eo.entries⟩,⟨by omega,by omega⟩⟩ S.own.src rfl (by omega) (λw b=>(m w b).1) (λl c p J=>?_) (ww S.inv)) ?_
  · obtain⟨a,L,_,e⟩:=(nK S.inv S.snd c).1 p J
    rw[e];omega
  · rintro N g ⟨l,M,c,f,rfl,e⟩
    rw[ye S.inv S.snd c f m]
    exact⟨rfl,e⟩
theorem tL(S:Gs H B j k o i d u C z v D A r)(f:u.length<=100000):
    iE.C (some ⟨j.h,0,none⟩) i u.length d B (λm b=> ∃L:List Int,(∃l,L=bZ k.sp.mem u l/\L.length=l)/\m=vi (kH k.sp.mem L)/\kH k.sp.mem L<=k.sp.mem.words []/\Ext B b):=by
  refine HC.mono (wD (roots:=u) S.hp S.inv.ok ⟨rfl,S.own.src,λy g=>?_⟩ (by omega) (λw a=>(S.good w a).1) S.own.lt) ?_
  · have:=(S.good y g).1
    exact rG this
  · rintro m b ⟨L,c,rfl,e⟩
    exact⟨L,c,rfl,xH S.inv S.snd (λw a=>⟨(S.good w a).1,(S.good w a).2.1⟩) c,e⟩
variable{d:Hp}{i:Int->Nat}{j:List (Int×Int)}{k o:List Int}{r u v:Nat}{H z:zV}{A B C G:zW}{D:Blk}{E F:Int}
theorem Gs.sub{p:zV}{a:List Int}{l:Nat}(S:Gs H z D d i A r k B u o G l j)(e:Ext z p)(m:Own p 28 1 C a.length v (yE a))(f: ∀q∈kd C,z.size<=q)(g: ∀w∈a,w∈k):Gs H p D d i C v a B u o G l j:=by
 have c: ∀q∈D.all,q<z.size:=λq b=>S.hp.lt q b
 have s:=S.e.size
 exact⟨S.e.trans e,S.hp.ext e,S.inv,S.snd,m,λw n=>S.good w (g w n),S.sy,S.so.ext e,S.sgood,S.en,S.eo.ext e,S.egood,S.hb,λq b=>⟨by have:=f q b;omega,λh=>by have:=c q h;have:=f q b;omega⟩,λq b=>⟨(S.hs q b).1,(S.hs q b).2.1,λh=>by have:=S.so.lt q b;have:=f q h;omega⟩,λq b=>⟨(S.he q b).1,(S.he q b).2.1,λh=>by have:=S.eo.lt q b;have:=f q h;omega,(S.he q b).2.2.2⟩⟩
theorem vm{s:Sp}{a:Int}(h:iM s E F a≠0):iM s E F a=1\/iM s E F a=2:=by
 unfold iM at h⊢
 split
 ·exact .inl rfl
 ·split
  ·exact .inr rfl
  ·rename_i b c;rw[za b,za c]at h;exact absurd rfl h
theorem uJ.gs{H':zV}{b:Blk}(S:Gs H z b d i A r k B u o C v j){g T:Int}{V:Int->Prop}{q:Int->Option Int}{P:List Int}{p:Int->Option Int}{al:List Int}{y:Int->Nat}{f:Tr}{s3 s4 s5:Sp}{D:List (Int×Int)}
  (W:uJ (λax ws=>ws.length=k.length/\Own ax 28 1 A k.length r (yE ws)) (kd A) z H' b d i g T k j o V q P p al y f s3 s4 s5 D):
  ∃(x':Hp) (a1:zW) (a2:Nat) (L:zW) (M:Nat),x'.sp=s5/\Gs H H' b x' (zF f.old y) A r (k.map (Fw f.old p)) a1 a2 (o8 f.old p o) L M D:=by
 have t:=W.col.t
 obtain⟨ay,c,oB,oC,R,U,x,Q,s,N⟩:=W.at'
 obtain⟨ak,Y⟩:=W.own
 have aU:=S.e.size
 have n: ∀az∈b.all,az<z.size:=λaz a=>S.hp.lt az a
 have E: ∀w,aD w->Good d.sp.mem i w->Dn f.old p w->aD (Fw f.old p w)/\Good s5.mem (zF f.old y) (Fw f.old p w):=λw h1 h2 h3=>⟨t.tri.fw_word t.S h1,(t.good h1 h2 h3).1⟩
 refine⟨_,ay,c,oB,oC,rfl,⟨S.e.fr_trans W.fr (λaz a=>?_),R,W.col.inv,t.snd S.snd,by rw[Dl];exact Y,λw X=>?_,rfl,U,λw X=>?_,rfl,Q,λe he=>?_,S.hb,S.hm,λaz a=>⟨?_,?_,?_⟩,λaz a=>⟨?_,?_,?_,λh=>N az h a⟩⟩⟩
 ·rcases CM.1 a with q | q
  ·exact S.hb az q
  ·exact(S.hm az q).1
 ·obtain⟨m,l,rfl⟩:=CT.1 X
  obtain⟨F,G,I⟩:=S.good m l
  obtain⟨J,K⟩:=E m F G (t.roots m (W.kept m l))
  exact⟨J,K,og I⟩
 ·obtain⟨m,l,rfl⟩:=CT.1 X
  obtain⟨q1,Z⟩:=Dm.1 l
  obtain⟨r1,r2,r3⟩:=S.sgood m q1
  have hd:Dn f.old p m:=λho=>by
   unfold rv at Z
   rw[zQ (show ¬ ¬aO f.old m from λq=>q ho)]at Z
   exact D4.1 (by simpa using Z)
  obtain⟨J,K⟩:=E m r1 r2 hd
  exact⟨J,K,og r3⟩
 ·obtain⟨e0,O,rfl,d1,d2⟩:=W.ents.1 e he
  obtain⟨⟨⟨F,G⟩,I,a4⟩,a5,a6⟩:=S.egood e0 O
  exact⟨⟨E _ F G d1,E _ I a4 d2⟩,og a5,og a6⟩
 ·have:=x az a;omega
 ·intro h;have:=n az h;have:=x az a;omega
 ·intro h;have:=S.own.lt az h;have:=x az a;omega
 ·have:=s az a;omega
 ·intro h;have:=n az h;have:=s az a;omega
 ·intro h;have:=S.own.lt az h;have:=s az a;omega
theorem vn(O:Nat->Bool)(a:Int->Option Int)(l:List Int):(o8 O a l).length<=l.length:=by
 unfold o8
 rw[Dl]
 exact En _ _
theorem tM{c:List Int}(S:Gs H z D d i A r o B u c C v j)(L:d.sp.cf<=100000)(R:o.length<=100000)(T:c.length<=100000)(N:j.length<=100000)(O:Ah E)(K:Ah F)
   {s pC:Nat} (m:dO z G (zR 0 (A.getD default) o.length)) (Q:s=o.length) (l: ∀a0∈kd G,a0 ∉ D.all/\a0 ∉ kd A/\a0<z.size):
  iC.C (some ⟨D.h,0,none⟩) E F G s pC z (λa1 g=>(∃e:Int,a1=vi e/\(e=1\/e=2)/\Ext z g)\/
   (a1=vi 0/\ ∃(V:Int->Prop) (q:Int->Option Int) (P:List Int) (y:Int->Option Int) (x:List Int) (p:Int->Nat) (Y:Tr) (U W X:Sp) (n:List (Int×Int)),uJ (λZ t=>t.length=o.length/\Own Z 28 1 A o.length r (yE t)) (kd A) z g D d i E F o j c V q P y x p Y U W X n)):=by
 refine HC.mono (sc (Cel.own A o.length r) (k:=0) (pC:=pC) S.hp S.inv (by omega) S.en S.eo (λa0 a=>⟨(S.he a0 a).2.1,(S.he a0 a).2.2.1⟩) (λe M=>(S.egood e M).1) (by omega) S.sy S.so (λa0 a=>⟨(S.hs a0 a).2.1,(S.hs a0 a).2.2⟩) (λw f=>⟨(S.sgood w f).1,(S.sgood w f).2.1⟩) (by omega) O K ⟨rfl,S.own⟩ (λa0 a=>(S.hm a0 a).2) m (by omega) l (λw f=>⟨(S.good w f).1,(S.good w f).2.1⟩) (by omega)) ?_
 rintro a1 g ⟨I,J⟩
 by_cases b:iM d.sp E F ((j.length / 32+1:Nat):Int)=0
 case neg=>
  obtain⟨rfl,e⟩:=I b
  exact .inl ⟨_,rfl,vm b,e⟩
 exact .inr (J b)
theorem xJ(S:Gs H z D d i A r k B u o C v j)(t:d.sp.cf<=100000)(J:k.length<=100000)(K:o.length<=100000)(w:j.length<=100000)(N:Ah E)(M:Ah F)
   {L R:Nat} (I:dO z G (zR 0 (A.getD default) k.length)) (y:L=k.length) (x: ∀a2∈kd G,a2 ∉ D.all/\a2 ∉ kd A/\a2<z.size):
  iC.C (some ⟨D.h,0,none⟩) E F G L R z (λa3 s=>(∃e:Int,a3=vi e/\(e=1\/e=2)/\Ext z s)\/
   (a3=vi 0/\ ∃(p:Hp) (n:Int->Nat) (g:zW) (l:Nat) (a:List Int) (b:zW) (c:Nat) (m:List (Int×Int)) (f:Int->Int),Gs H s D p n A r (k.map f) g l a b c m/\a.length<=o.length/\m.length<=j.length/\p.sp.cf<=d.sp.cf+1024)):=by
 refine HC.mono (tM S t J K w N M I y x) ?_
 rintro a3 s (h | ⟨rfl,V,q,P,U,T,n,tr,X,Y,Z,Q,W⟩)
 ·exact .inl h
 obtain⟨p,g,l,b,c,O,a1⟩:=W.gs S
 exact .inr ⟨rfl,p,_,g,l,_,b,c,_,_,a1,vn _ _ _,W.ents.2,by rw[O];exact W.cf⟩
def rI(H0 A:zV)(b:Blk)(i:Int)(mB:zW)(mN mC:Nat):Prop:=
 ∃(x:Hp) (sz:Int->Nat) (made:List Int) (sB:zW) (sC:Nat) (syl:List Int) (eB:zW) (eC:Nat) (el:List (Int×Int)),mN=made.length/\Gs H0 A b x sz mB mC made sB sC syl eB eC el/\x.sp.cf<=1024+1024*i/\(made.length:Int)<=401*i/\(syl.length:Int)<=400*i/\(el.length:Int)<=400*i
theorem Gs.some{f H:zV}{b:Blk}{x:Hp}{sz:Int->Nat}{e m:zW}{l n:Nat}{c d:List Int}{g:zW}{i:Nat}{j:List (Int×Int)}(S:Gs f H b x sz e l c m n d g i j)(h:0<c.length): ∃a,e=some a:=by
 obtain⟨a,k,_⟩:=mb S.own.src h
 exact⟨a,k⟩
theorem xK{H g:zV}{b:Blk}{f:Hp}{l:Nat}(V:View g (some ⟨b.h,0,none⟩) (some (b,f)))(d:f=⟨⟨Mem.fresh l,λ_ _=>0⟩,VN,VN,0⟩)(e:Ext H g)(n: ∀j∈b.all,H.size<=j)(o:l<=1024):
  rI H g b 0 none 0 0:=by
 obtain⟨-,k,m⟩:=V.inv
 have c: ∀a,¬f.sp.mem.used a:=λa h=>by
  rw[d]at h
  exact absurd rfl h.2.1.2.2
 refine⟨f,λ_=>0,[],none,0,[],none,0,[],rfl,⟨e,k,⟨m,by rw[d];exact tZ _,?_,λa h=>absurd h (c a)⟩,⟨λa h=>absurd h (c a),λa i h=>absurd rfl h⟩,gI,λw h=>by simp at h,by rw[d];rfl,gI,λw h=>by simp at h,by rw[d];rfl,gI,λe h=>by simp at h,n,λj h=>by simp at h,λj h=>by simp at h,λj h=>by simp at h⟩,?_,by simp,by simp,by simp⟩
 ·exact⟨λa h=>absurd rfl h,λa b h=>absurd rfl h,λa h=>absurd rfl h,λa h=>absurd rfl h,λa h=>absurd h (c a)⟩
 ·rw[d]
  show(0:Int)+((l:Nat):Int)<=1024+1024*0
  omega
set_option maxRecDepth 100000 in
set_option maxHeartbeats 1000000 in
theorem wM{H:zV}{l:Int}{s:Sl gP}(hl:Ah l)(A:SlOK 6 lk maxLen H s)(F:xO s.xs):
  dT.C l s.p s.n s.c H (λv H'=>(v=.tuple #[vp none,VN,VT]/\Ext H H')\/ ∃b J mN N,v=.tuple #[vp (some ⟨b.h,0,none⟩),vs J mN N,VT]/\rI H H' b s.n J mN N):=by
 refine HC.via λR hR=>dT.link ?_
 unfold dT.pt zY
 refine HC.mono (rf hl) ?_
 rintro _ H1 (⟨hc,rfl,e1⟩ | ⟨hc,b,x0,rfl,V1,hx,e1,b7⟩)
 ·refine⟨_,_,rfl,?_⟩
  rw[za (by decide)]
  exact hR _ _ (.inl ⟨rfl,e1⟩)
 refine⟨_,_,rfl,?_⟩
 rw[qB rfl,CK]
 have bB:=A.len
 have bK:=F.1
 refine⟨λJ mN N i M=>(0<=i/\i<=s.n)/\rI H M b i J mN N,λ_ _ _ i _=>(s.n-i).toNat,⟨⟨by omega,by omega⟩,xK V1 hx e1 b7 (by omega)⟩,?_⟩
 rintro J mN N i A1 ⟨hi,hG⟩
 by_cases G:i< (s.n:Int)
 case neg=>
  rw[za G]
  rw[show i=(s.n:Int)by omega]at hG
  exact hR _ _ (.inr ⟨b,J,mN,N,rfl,hG⟩)
 rw[qB G]
 obtain⟨x,sz,bN,sB,sC,cN,eB,eC,el,rfl,S,cp,cv,cw,cr⟩:=hG
 have E:i.toNat<s.xs.length:=by omega
 obtain⟨la,bb,a5⟩:=A.row i.toNat E
 have d:gP.OK maxLen H s.xs[i.toNat]:=A.each _ (CS E)
 have D:=F.2 _ (CS E)
 generalize s.xs[i.toNat]=r at*
 have hd:((s.n:Int)-(i+1)).toNat< ((s.n:Int)-i).toNat:=by omega
 rw[xT (n:=i+1) (by omega)]
 refine⟨la,bb,⟨hi.1,G⟩,_,_,_,_,_,_,_,_,_,_,_,_,S.e.rowAt a5,?_⟩
 intro c H3 b9 Q
 obtain⟨p1,p2⟩:=ko (n:=6) (vs:=[vs r.acts.p r.acts.n r.acts.c,vs r.guard.p r.guard.n r.guard.c,vs r.symbols.p r.symbols.n r.symbols.c,vi r.g,vi r.target,.int .u32 r.keep]) (aF b9 Q) rfl rfl
 refine⟨p1,λH4 b6=>?_⟩
 obtain⟨g4,f4⟩:=p2 H4 b6
 have e3:Ext A1 H3:=CI Q
 have e4:Ext A1 H4:=e3.fr_trans f4 (λj q=>by simp at q;omega)
 have S4:=S.ext e4
 have a6:j3 H4 c r:=⟨g4⟩
 have V: ∀j∈b.all,j<A1.size:=λj q=>S.hp.lt j q
 have z:c ∉ b.all:=λh=>by have:=V c h;omega
 have W:c ∉ b.all/\c ∉ kd J/\c ∉ kd sB:=⟨z,λh=>by have:=S.own.lt c h;omega,λh=>by have:=S.so.lt c h;omega⟩
 refine tA S4 (by omega) rfl (by omega) a6 W d.acts D.1 ?_
 intro A5 bd be m x5 bm S5 bs bC a7 Y cz
 have ba:c ∉ kd eB:=λh=>by have:=S.eo.lt c h;omega
 refine qM S5 (by omega) a7 ⟨z,ba⟩ d.guard D.2.2 (by omega) ?_
 intro bX aU b0 b3 cQ ak w bA I bM
 refine tJ ak (by omega) I ⟨z,Y,W.2.2⟩ d.symbols D.2.1 (by omega) ?_
 intro A6 bg bj ac x6 S6 P bc t bz cA
 have bu:x6.sp.cf=x5.sp.cf:=by rw[P,w]
 refine HC.mono (rH S6 (by omega) (by omega) (by omega)) ?_
 rintro _ A7 ⟨rfl,e7⟩
 refine⟨_,_,rfl,?_⟩
 rw[qB rfl]
 have S7:=S6.ext e7
 refine sq S7 (by omega) (t.ext e7) ?_
 intro A8 rB rC o e8 a3 b8 a1 bI
 have S8:=S7.sub e8 a3 b8 a1
 have M8:=S7.ext e8
 have a9:=(t.ext e7).ext e8
 refine pf S8.some (by omega) ?_
 intro A9 pB pC e9 a4 k
 have S9:=S8.ext e9
 have M9:=M8.ext e9
 have u:=a9.ext e9
 have T:hat A9 ((Addr.mk c 0 none).add 3)=some (vi r.g):=by rw[fG u.at'];rfl
 have U:hat A9 ((Addr.mk c 0 none).add 4)=some (vi r.target):=by rw[fG u.at'];rfl
 refine⟨_,T,_,U,?_⟩
 have y: ∀j∈b.all,j<A8.size:=λj q=>S8.hp.lt j q
 refine HC.mono (R:=λv M=> ∃e:Int,v=vi e/\(e=0->rI H M b (i+1) rB o.length rC)/\(e≠0->rI H M b (i+1) bd m.length be)) (HC.mono (xJ S9 (by omega) (by omega) (by omega) (by omega) (wf_i64 d.g) (wf_i64 d.target) a4 rfl (λj q=>⟨λh=>by have:=y j h;have:=(k j q).1;omega,λh=>by have:=a3.lt j h;have:=(k j q).1;omega,(k j q).2⟩)) ?_) ?_
 ·rintro v ah (⟨e,rfl,Z,ao⟩ | ⟨rfl,x',bl,bf,bi,ab,az,aW,b2,f,aj,h1,h3,h2⟩)
  ·refine⟨e,rfl,λh=>by omega,λ_=>⟨x6,bm,m,bg,bj,ac,aU,b0,b3,rfl,M9.ext ao,by omega,by omega,by omega,by omega⟩⟩
  ·refine⟨0,rfl,λ_=>⟨x',bl,o.map f,bf,bi,ab,az,aW,b2,by rw[Dl],aj,by omega,by rw[Dl];omega,by omega,by omega⟩,λh=>absurd rfl h⟩
 rintro _ ah ⟨e,rfl,hy,hn⟩
 refine⟨e,rfl,λB n cc M=>rI H M b (i+1) B n cc,?_,?_⟩
 ·by_cases Z:e=0
  ·rw[qB Z];exact hy Z
  ·rw[za Z];exact hn Z
 rintro cC cG cE bR ⟨x7,bn,K,bh,bk,ae,aV,b1,b4,rfl,T7,X,a2,a8,a0⟩
 refine HC.mono (rH T7 (by omega) (by omega) (by omega)) ?_
 rintro _ bS ⟨rfl,ap⟩
 refine⟨_,_,rfl,?_⟩
 rw[qB rfl]
 have T8:=T7.ext ap
 have aa: ∀{A:zV} {a:Addr} {v:Value},hat A a=some v->aL A a 0 [v]:=λh=>⟨by rw[m7];exact h,EO⟩
 refine⟨_,T8.hp.hPtr,_,rfl,_,T8.hp.cd.cPtr,?_⟩
 refine HC.mono (tL T8 (by omega)) ?_
 rintro _ bT ⟨L,hL,rfl,cu,au⟩
 have O:=T8.ext au
 refine⟨_,rfl,aa O.hp.hPtr,aa O.hp.cd.cPtr,?_⟩
 refine HC.mono (kw (gs:=[]) O.hp.cd.sp O.inv.ok (by rw[DF];rfl) rfl (by decide)) ?_
 rintro _ bU ⟨rfl,av⟩
 refine⟨_,rfl,?_⟩
 rw[za (by omega)]
 exact⟨⟨⟨by omega,by omega⟩,x7,bn,K,bh,bk,ae,aV,b1,b4,rfl,O.ext av,X,a2,a8,a0⟩,hd⟩
end Go.Proofs.YtfhbhckhmnleoaaGreat
namespace Go.Proofs.YtfhbhckhmnleoaaGreat
open Go
theorem wO{s:Sp}{m:Int->Nat}(I:Inv s m){a:Int}(d:m a≠0){i:Nat}(B:i<m a)(t:s.mem.strong (a+i))(A:2<=s.mem.kAt a->i≠0):s.mem.get (a+i)∈visL (zn s.mem a) (bP s.mem (zn s.mem a)):=by
 obtain⟨x,o,g,f,F⟩:=qv I d
 have C:=I.sound.lt I.ok.mem d
 have h:=I.sound.usedAt d B (λk=>(I.ok.mem.seg k).n.2)
 have hk:s.mem.kAt (a+i)=s.mem.kAt a:=by unfold Mem.kAt;rw[h.2.1]
 have z:s.mem.kAt a≠3:=by rw[<-hk];exact t.1
 obtain⟨p,r⟩:=vj I.ok.mem I.sound x o g
 rw[f]at p r
 have j:Aj (zn s.mem a)=a:=by
  unfold aZ at g
  unfold Aj
  rw[qB ⟨by omega,by rw[f];exact C.2⟩,f]
 have c: ¬(s.mem.typ (zn s.mem a)=2\/s.mem.typ (zn s.mem a)=3)/\ ∃n:Nat,eS s.mem (zn s.mem a)=n/\n<=i:=by
  by_cases b:2<=s.mem.kAt a
  ·have u:=(I.sound.obj a d b)
   have e:=(p b).1
   refine⟨λq=>?_,1,?_,by have:=A b;omega⟩
   ·rw[e]at q
    have:=u.2.1
    unfold zh at this
    rw[qB q]at this
    exact z this
   ·unfold eS
    rw[qB]
    ·rfl
    ·rw[e]
     have:=u.1.2;unfold Go.Proofs.YtfhbhckhmnleoaaGreat.hk;omega
  ·have e:=(r (by omega)).1
   refine⟨by rw[e];omega,0,?_,by omega⟩
   unfold eS
   rw[za (by rw[e];decide)]
   rfl
 obtain⟨c,n,hn,D⟩:=c
 rw[tE I.ok.mem I.sound x o g,za c,f,hn]
 refine CT.2 ⟨(a+i,s.mem.get (a+i)),Dm.2 ⟨CT.2 ⟨i-n,?_,?_⟩,?_⟩,rfl⟩
 ·rw[Dc];omega
 ·have:a+((n:Int)+((i-n:Nat):Int))=a+i:=by omega
  rw[this]
 ·unfold mY
  refine zX ?_
  rw[j]
  by_cases y:zn s.mem a % 8=2
  ·right
   have l:s.mem.kAt a=1:=by
    have:=(o.2 g).2
    rw[f]at this
    unfold zL at this
    by_cases v:s.mem.kAt a=0
    ·rw[qB v]at this;omega
    ·rw[za v]at this
     by_cases w:s.mem.kAt a=1
     ·exact w
     ·rw[za w]at this;omega
   have E:=(I.sound.two a d (by omega)).2
   have:=t.2.resolve_left (λq=>q (by rw[hk,l]))
   show a+(i:Int)>a
   omega
  ·exact .inl y
theorem fM.live{Z:TZ}{F0:Int}{f:Int->Option Int}{al:List Int}{s s' c:Sp}{o:Int->Nat}{tr:Tr}{roots:List Int}(t:fM Z 3 F0 f al o tr s s' c.mem)(I:Inv c (zF Z.O o))(hS:Bn c.mem (zF Z.O o))(hP:Z.P=[])(hq: ∀x,Z.q x=none)(hV: ∀v,Z.V v->v∈roots)(au:Z.m.words [4]=0)(hr: ∀w∈roots,aD w/\Good Z.m Z.sz w)(ag: ∀w∈roots,Dn Z.O f w)(ae:Z.T=3)
  {L:List Int} (hL: ∃k,L=bZ c.mem (roots.map (Fw Z.O f)) k/\L.length=k):c.mem.words []<=kH c.mem L/\c.mem.words [3]=c.mem.words []:=by
 have S:=t.S
 have Q: ∀x,Z.m.used x->Z.O (x / 64).toNat=true:=λx R=>by
  have an:=S.lt R
  refine(S.old _ an.1).2 ⟨by rw[show(((x / 64).toNat:Nat):Int)=x / 64 by omega];exact R.2.1,?_⟩
  rcases DA 3 (Z.m.gAt x)with q | q
  ·exfalso
   have ah:=(S.ok.seg (x / 64).toNat).gen
   have hg:Z.m.gAt x=4:=by have:Z.m.gAt x<=4:=ah.2;omega
   rw[Ei S.ok]at au
   have H:(Z.m.cnt λx=>decide ([(4:Int)]=[]\/Z.m.gAt x∈[(4:Int)]))=0:=by omega
   unfold Mem.cnt at H
   rw[List.countP_eq_zero]at H
   have aw:tops=65536:=rS
   have:=H x.toNat (by rw[Dc];omega)
   rw[show((x.toNat:Nat):Int)=x by omega]at this
   simp[R,hg]at this
  ·exact q
 obtain⟨k,rfl,hk⟩:=hL
 obtain⟨c1,c2⟩:=tD hk
 have A: ∀b,zF Z.O o b≠0->c.mem.sizeOf (zn c.mem b)>0:=λb g=>by
  have:=(qv I g).2.2.2.2
  omega
 have K: ∀v b,aD v->Good Z.m Z.sz v->aO Z.O v->f (v / 8)=some b->zF Z.O o b≠0/\Fw Z.O f v=zn c.mem b:=λv b j hg D g=>by
  have F:=uF D
  obtain⟨g1,g2,_⟩:=t.good j hg (λ_=>⟨b,g⟩)
  obtain⟨k1,k2,k3,_⟩:=g2 F
  have e:Fw Z.O f v=b*8+v % 8:=kq D g
  have ap:=(hg.2 F).1
  have av:aZ (Fw Z.O f v):=by rw[e];unfold aZ at*;omega
  have e8:Fw Z.O f v / 8=b:=by rw[e];omega
  rw[e8]at k2
  refine⟨by rw[k2];exact ap,?_⟩
  have:=oO g1 av
  rw[e8]at this;exact this
 have U: ∀a,Reach Z a-> ∀b,f a=some b->zn c.mem b∈bZ c.mem (roots.map (Fw Z.O f)) k:=λa M=>by
  induction M with
  | @root v h D=>
   intro b g
   have G:=hV v h
   obtain⟨u,B⟩:=hr v G
   obtain⟨e1,e2⟩:=K v b u B D g
   rw[<-e2]
   exact c1 _ (CT.2 ⟨v,G,rfl⟩) (by rw[e2];exact A b e1)
  | @older x hu hn W D=>rw[Q x hu]at hn;cases hn
  | @step a i h hi W D ih=>
   intro b g
   obtain⟨d,C⟩:=t.fin.reach S t.tri t.roots h
   have ai:=ih d C
   obtain⟨e0,y⟩:=t.tri.img a d C
   have E:=(t.tri.olds.mem a ((t.tri.al a).2 ⟨d,C⟩)).1
   have Y:=S.sound.usedAt E hi (λk=>(S.ok.seg k).n.2)
   have aj:Z.m.kAt (a+i)=Z.m.kAt a:=by unfold Mem.kAt;rw[Y.2.1]
   have hf:=y.fit
   have X:(d+(i:Int)) / 64=d / 64:=by omega
   have ay:c.mem.used (d+i):=t.used.2 ⟨y.here i hi,by rw[X];exact y.out⟩
   have N:=t.kind ay
   have ak:s.mem.kAt (d+i)=Z.m.kAt a:=by unfold Mem.kAt;rw[X];exact y.kind
   have J:zF Z.O o d=Z.sz a:=by unfold zF;rw[za (by rw[y.out];decide),e0]
   have z:c.mem.strong (d+i):=by
    unfold Mem.strong at*
    rw[N.1,ak]
    rw[aj]at W
    refine⟨W.1,?_⟩
    by_cases u:Z.m.kAt a=1
    ·right
     have:=W.2.resolve_left (λq=>q u)
     have:=y.even (by rw[u];decide)
     have:=(S.sound.two a E (by rw[u];decide)).2
     omega
    ·exact .inl u
   have aU:Was Z f (d+i) (Z.m.get (a+i)):=.inr ⟨hq _,.inr ⟨a,d,i,C,hi,rfl,rfl⟩⟩
   have a1:c.mem.get (d+i)=Fw Z.O f (Z.m.get (a+i)):=by
    rcases t.get aU with⟨q1,_⟩ | ⟨_,q1,q2⟩
    ·rw[q1,za (by rw[<-N.1];exact z.1)]
    ·exfalso
     have:=z.2.resolve_left (λq=>q (by rw[N.1];exact q1))
     omega
   have a2:aD (Z.m.get (a+i))/\Good Z.m Z.sz (Z.m.get (a+i)):=⟨(S.ok.seg _).words _,S.sound.good _ Y.1 W.1⟩
   obtain⟨g1,g2⟩:=K _ b a2.1 a2.2 D g
   have a3:c.mem.kAt d=Z.m.kAt a:=by
    have ax:c.mem.used d:=t.used.2 ⟨by simpa using y.here 0 (by omega),y.out⟩
    rw[(t.kind ax).1];exact y.kind
   have a0:=wO I (a:=d) (by rw[J];exact E) (i:=i) (by rw[J];exact hi) z (λB H=>by
    rw[a3]at B
    have o1:=(S.sound.obj a E B).1
    rw[H]at D
    exact mU o1 Z.O (by simpa using D))
   rw[a1,g2]at a0
   exact c2 _ ai _ a0 (A b g1)
 have a9: ∀b,zF Z.O o b≠0->zn c.mem b∈bZ c.mem (roots.map (Fw Z.O f)) k:=λb g=>by
  rcases t.thing g with q | ⟨a,u,B,h3,h4,h5,h6,h7⟩
  ·rw[hP]at q;cases q
  ·rcases h7 with⟨rfl,u1,u2⟩ | h7
   ·rw[Q a u1]at u2;cases u2
   ·exact U a (t.tri.reach a b h7) b h7
 have aw:tops=65536:=rS
 refine⟨?_,?_⟩
 ·-- each place that is used lies in one of these things
  obtain⟨q1,q2⟩:=qA (m:=c.mem) (P:=λw=>aD w/\Good c.mem (zF Z.O o) w) (roots:=roots.map (Fw Z.O f)) (λw j=>by
   obtain⟨v,G,rfl⟩:=CT.1 j
   obtain⟨u,B⟩:=hr v G
   exact⟨t.tri.fw_word S u,(t.good u B (ag v G)).1⟩) (λw j W v G=>by
   have F:aZ w:=mg (m:=c.mem) (by omega)
   obtain⟨p,hp,rfl⟩:=CT.1 G
   rw[oO j.2 F]at hp
   have:=mZ I hS (j.2.2 F).1 p hp
   exact⟨this.1,this.2.1⟩) k
  generalize bZ c.mem (roots.map (Fw Z.O f)) k=L at*
  have r: ∀w∈L,c.mem.sizeOf w=zF Z.O o (w / 8)/\zF Z.O o (w / 8)≠0/\w=zn c.mem (w / 8):=λw j=>by
   obtain⟨⟨w1,w2⟩,w3⟩:=q1 w j
   have F:aZ w:=mg (m:=c.mem) (by omega)
   exact⟨I.sound.size I.ok.mem w1 w2 F,(w2.2 F).1,oO w2 F⟩
  have e1:kH c.mem L=(((L.map (· / 8)).map (zF Z.O o)).sum:Nat):=by
   unfold kH
   have: ∀l:List Int,(∀w∈l,c.mem.sizeOf w=zF Z.O o (w / 8))->(l.map c.mem.sizeOf).sum=(((l.map (· / 8)).map (zF Z.O o)).sum:Nat):=by
    intro l
    induction l with
    | nil=>intro _;rfl
    | cons w l ih=>
     intro hl
     simp only[List.map_cons,List.sum_cons]
     rw[hl w (by simp),ih (λv G=>hl v (by simp[G]))]
     omega
   exact this L (λw j=>(r w j).1)
  have ao:(L.map (· / 8)).Nodup:=oh q2 (λa M b g e=>by
   rw[(r a M).2.2,(r b g).2.2]
   show zn c.mem (a / 8)=zn c.mem (b / 8)
   rw[show a / 8=b / 8 from e])
  rw[e1,Ei I.ok.mem,mh (zF Z.O o) tops _ ao (λa M=>?_) (λa M b g af=>?_)]
  ·unfold Mem.cnt
   refine Int.ofNat_le.2 (oG _ (λx _ R=>?_))
   simp only[CZ,CN]at R
   obtain⟨b,i,b1,b2,b3⟩:=hS.cover _ R.1
   rw[List.any_eq_true]
   refine⟨b,CT.2 ⟨zn c.mem b,a9 b b1,(qv I b1).2.2.2.1⟩,?_⟩
   unfold AU
   rw[CN];omega
  ·obtain⟨w,j,rfl⟩:=CT.1 M
   have H:=(r w j).2.1
   have am:=I.sound.lt I.ok.mem H
   obtain⟨u1,u2⟩:=I.sound.used _ H
   have:=(I.ok.mem.seg (w / 8 / 64).toNat).n
   have:=u1.2.1.2.1
   have hl:=I.ok.mem.lim
   refine⟨am.1,?_⟩
   omega
  ·obtain⟨w,j,rfl⟩:=CT.1 M
   obtain⟨w',az,rfl⟩:=CT.1 g
   exact I.sound.apart _ _ (r w j).2.1 (r w' az).2.1 af
 ·-- all is of one generation
  rw[Ei I.ok.mem,Ei I.ok.mem]
  congr 1
  unfold Mem.cnt
  refine ED λx R=>?_
  simp only[CZ,CN,List.cons_ne_self,reduceCtorEq,false_or,true_or,and_true,List.mem_singleton]
  refine⟨λh=>h.1,λh=>⟨h,?_⟩⟩
  obtain⟨u,B⟩:=t.used.1 h
  rcases t.tri.cover x u with q | ⟨a,b,i,r1,r2,r3⟩ | ⟨p,r1,_⟩
  ·rw[Q _ q]at B;cases B
  ·have y:=(t.tri.img a b r1).2
   have hf:=y.fit
   have:s.mem.gAt x=Z.T:=by unfold Mem.gAt;rw[r3,show(b+(i:Int)) / 64=b / 64 by omega];exact y.gen
   rw[(t.kind h).2,this];exact ae
  ·rw[hP]at r1;cases r1
