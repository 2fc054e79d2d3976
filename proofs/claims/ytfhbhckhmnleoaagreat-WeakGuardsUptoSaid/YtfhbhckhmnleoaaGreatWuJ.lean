/-
  The law of guards looks at each entry behind a trace. Proves nothing of any one statement.
-/
import Derived.Test.YtfhbhckhmnleoaaGreatWuG
import Derived.Test.YtfhbhckhmnleoaaGreatWuA
set_option linter.unusedVariables false
set_option linter.unusedSimpArgs false
namespace Go.Proofs.YtfhbhckhmnleoaaGreat
open Go
def km(D:Int->Bool)(z:List ((Int×Int)×Bool))(e:Int×Int):Nat:=z.countP λx=>x.2 && D x.1.2 && decide (x.1=e)
structure EnF (y:Hp) (O:Nat->Bool) (T:Int) (el:List (Int×Int)) (lb:List Bool) (F:Int->Int) (D:Int->Bool) (out:List (Int×Int)):Prop where
  len:lb.length=el.length
  word: ∀e∈el,aC e.1/\aC e.2
  rg: ∀e∈el,reachedB O y.sp.mem e.2=D e.2
  vis: ∀e∈el,D e.2=true->y.sp.visit O T e.1=(y.sp,F e.1)/\y.sp.visit O T e.2=(y.sp,F e.2)/\reachedB O y.sp.mem e.1=true/\ ¬aG O (F e.1)/\ ¬aG O (F e.2)/\aC (F e.1)/\aC (F e.2)
  out:out=((el.zip lb).filter λx=> !x.2 && D x.1.2).map λx=>(F x.1.1,F x.1.2)
  qu: ∀x∈el.zip lb,x.2=true->D x.1.2=true->y.sp.mem.typ (F x.1.2)=10-> ∃Lq,QAt y.sp.mem (F x.1.2) Lq/\Lq.length<=100000/\km D (el.zip lb) x.1<=(Lq.map Prod.snd).count (F x.1.1)
theorem uR{α:Type}(p:α->Bool)(x:α):[x].filter p=if p x=true then[x]else[]:=by
  by_cases h:p x=true
  · rw[if_pos h,List.filter_cons_of_pos h];rfl
  · rw[if_neg h,List.filter_cons_of_neg h];rfl
theorem ue{l:List Bool}{i:Nat}{v:Bool}(h:l[i]?=some v):(bvs l)[i]?=some (.bool v):=by unfold bvs;rw[List.getElem?_map,h];rfl
set_option maxRecDepth 100000 in
set_option maxHeartbeats 1000000 in
theorem pV{Q:zv}{R:zk}{s:zV}{b:Blk}{y:Hp}{q:TB}{t:Tr}{eB lB sB:zW}{eC lC sC:Nat}{c B:List (Int×Int)}{O:List Bool}{F:Int->Int}{D:Int->Bool}(T:Tg s b y q t)(E:EnF y t.old t.tgt c O F D B)(dS:c.length<=100000)
    (ho:Own s 36 2 eB c.length eC (evs c)) (d1:Own s 4 1 lB c.length lC (bvs O)) (d8:Own s 36 2 sB B.length sC (evs B)) (cS: ∀j∈blks eB,j ∉ spB b) (cX: ∀j∈blks lB,j ∉ spB b) (d7: ∀j∈blks sB,j ∉ spB b)
    (hQ: ∀A:zV,Tg A b y q t->Fr (spB b) s A->Q B.length A):
    ∃(L:Int->zv) (p:Int->Int->zV->Nat),L 0 0 s/\ ∀(H:Int) (g:Int) (M:zV),L H g M->
    if g< (c.length:Int)then(
     ∃o:Addr,eB=some o/\
     ((0:Int)<=g/\g< (c.length:Int))/\
     ∃ak:Int,∃I:Int,aP M (o.add (Int.toNat g*2)) 0 [vu ak,vu I]/\
     ∀(v:Nat) (b5:zV),v=M.size->b5=M.push (.cells #[vu 0,vu 0] 36)->
     (aN b5 (Addr.mk v 0 none) 0 2)/\ ∀b6:zV,b6=aV b5 (Addr.mk v 0 none) [vu ak,vu I] 0->
     ∃al:Int,hat b6 ((Addr.mk v 0 none).add 1)=some (vu al)/\
     aU.C (some ⟨q.t,0,none⟩) al b6 (λc6 a3=> ∃am:Bool,c6=.bool am/\
      if am=true then(
       ∃an:Int,hat a3 (Addr.mk v 0 none)=some (vu an)/\
       ∃a8:Int,hat a3 ((Addr.mk v 0 none).add 1)=some (vu a8)/\
       aT.C (some ⟨q.t,0,none⟩) an a3 (λc7 bo=> ∃Y:Int,c7=vu Y/\aP bo ((Addr.mk v 0 none).add 1) 0 [vu a8]/\
        aT.C (some ⟨q.t,0,none⟩) a8 bo (λc8 bp=> ∃V:Int,c8=vu V/\
         ∃ao:Int,hat bp (Addr.mk v 0 none)=some (vu ao)/\
         aU.C (some ⟨q.t,0,none⟩) ao bp (λc9 bq=> ∃ap:Bool,c9=.bool ap/\
          if ap=true then(
           aZ.C (some ⟨q.t,0,none⟩) Y bq (λcc br=> ∃au:Bool,cc=.bool au/\
            if au=true then(
             R vF br)
            else
            aZ.C (some ⟨q.t,0,none⟩) V br (λcd J=> ∃av:Bool,cd=.bool av/\
             if av=true then(
              R vF J)
             else
             ∃P:Addr,lB=some P/\
             ((0:Int)<=g/\g< (c.length:Int))/\
             ∃aw:Bool,hat J (P.add (Int.toNat g*1))=some (.bool aw)/\
             if aw=true then(
              bW.C (some ⟨b.h,0,none⟩) V J (λce b7=> ∃ax:Int,ce=vi ax/\
               if ax=10 then(
                bV.C (some ⟨b.h,0,none⟩) V b7 (λcf cs=> ∃bY:zW,∃c5:Nat,∃bZ:Nat,∃aj:Bool,cf=.tuple #[vs bY c5 bZ,.bool aj]/\
                 ∃(G:Int->zv) (l:Int->Int->zV->Nat),G 0 0 cs/\ ∀(d:Int) (j:Int) (m:zV),G d j m->
                 if j< (c.length:Int)then(
                  ((0:Int)<=j/\j< (c.length:Int))/\
                  ∃ay:Bool,hat m (P.add (Int.toNat j*1))=some (.bool ay)/\
                  if ay=true then(
                   ((0:Int)<=j/\j< (c.length:Int))/\
                   ∃az:Int,hat m ((o.add (Int.toNat j*2)).add 1)=some (vu az)/\
                   ∃a9:Int,hat m (Addr.mk v 0 none)=some (vu a9)/\
                   ∃aa:Int,hat m ((Addr.mk v 0 none).add 1)=some (vu aa)/\
                   aU.C (some ⟨q.t,0,none⟩) az m (λcg u=> ∃aL:Bool,cg=.bool aL/\aP u (Addr.mk v 0 none) 0 [vu a9]/\aP u ((Addr.mk v 0 none).add 1) 0 [vu aa]/\
                    if aL=true then(
                     ((0:Int)<=j/\j< (c.length:Int))/\
                     ∃aS:Int,hat u (o.add (Int.toNat j*2))=some (vu aS)/\
                     if aS=a9 then(
                      ((0:Int)<=j/\j< (c.length:Int))/\
                      ∃b0:Int,hat u ((o.add (Int.toNat j*2)).add 1)=some (vu b0)/\
                      if b0=aa then(
                       (G (IntKind.wrap .i64 (d+1)) (IntKind.wrap .i64 (j+1)) u/\l (IntKind.wrap .i64 (d+1)) (IntKind.wrap .i64 (j+1)) u<l d j m))
                      else
                      (G d (IntKind.wrap .i64 (j+1)) u/\l d (IntKind.wrap .i64 (j+1)) u<l d j m))
                     else
                     (G d (IntKind.wrap .i64 (j+1)) u/\l d (IntKind.wrap .i64 (j+1)) u<l d j m))
                    else
                    (G d (IntKind.wrap .i64 (j+1)) u/\l d (IntKind.wrap .i64 (j+1)) u<l d j m)))
                  else
                  (G d (IntKind.wrap .i64 (j+1)) m/\l d (IntKind.wrap .i64 (j+1)) m<l d j m))
                 else
                 if aj=true then(
                  bX.C bY c5 bZ Y m (λch b8=> ∃b1:Int,ch=vi b1/\
                   if b1<d then(
                    R vF b8)
                   else
                   (L H (IntKind.wrap .i64 (g+1)) b8/\p H (IntKind.wrap .i64 (g+1)) b8<p H g M)))
                 else
                 R vF m))
               else
               (L H (IntKind.wrap .i64 (g+1)) b7/\p H (IntKind.wrap .i64 (g+1)) b7<p H g M)))
             else
             if H>=(B.length:Int)then(
              R vF J)
             else
             ∃a7:Addr,sB=some a7/\
             ((0:Int)<=H/\H< (B.length:Int))/\
             ∃b2:Int,hat J (a7.add (Int.toNat H*2))=some (vu b2)/\
             if b2=Y then(
              ((0:Int)<=H/\H< (B.length:Int))/\
              ∃b3:Int,hat J ((a7.add (Int.toNat H*2)).add 1)=some (vu b3)/\
              if b3=V then(
               (L (IntKind.wrap .i64 (H+1)) (IntKind.wrap .i64 (g+1)) J/\p (IntKind.wrap .i64 (H+1)) (IntKind.wrap .i64 (g+1)) J<p H g M))
              else
              R vF J)
             else
             R vF J)))
          else
          R vF bq))))
      else
      (L H (IntKind.wrap .i64 (g+1)) a3/\p H (IntKind.wrap .i64 (g+1)) a3<p H g M)))
    else
    Q H M:=by
  obtain⟨z,hz⟩: ∃z,z=c.zip O:=⟨_,rfl⟩
  have a2:z.length=c.length:=by rw[hz,List.length_zip,E.len];omega
  have bh: ∀k (h:k<c.length),z[k]'(by rw[a2];exact h)=(c[k],O[k]'(by rw[E.len];exact h)):=λk h=>by subst hz;exact List.getElem_zip
  have a5:=E.out
  rw[<-hz]at a5
  obtain⟨fl,a4⟩: ∃fl:Nat->List ((Int×Int)×Bool),fl=λk=>(z.take k).filter λx=> !x.2 && D x.1.2:=⟨_,rfl⟩
  have cJ: ∀k (h:k<c.length),fl (k+1)=if(!(O[k]'(by rw[E.len];exact h)) && D c[k].2)=true then fl k++[(c[k],O[k]'(by rw[E.len];exact h))]else fl k:=λk h=>by
    rw[a4]
    show(z.take (k+1)).filter _=_
    rw[List.take_succ_eq_append_getElem (by rw[a2];exact h),bh k h,List.filter_append,uR]
    show _++(if(!(O[k]'(by rw[E.len];exact h)) && D c[k].2)=true then _ else _)=_
    by_cases hc:(!(O[k]'(by rw[E.len];exact h)) && D c[k].2)=true
    · rw[if_pos hc,if_pos hc]
    · rw[if_neg hc,if_neg hc,List.append_nil]
  have cF: ∀k,k<=c.length-> ∃r,z.filter (λx=> !x.2 && D x.1.2)=fl k++r:=λk _=>⟨(z.drop k).filter _,by rw[a4];show _=(z.take k).filter _++_;rw[<-List.filter_append,List.take_append_drop]⟩
  have cI: ∀k,(fl k).length<=k:=λk=>by
    rw[a4]
    exact Nat.le_trans (List.length_filter_le _ _) (by rw[List.length_take];omega)
  have outL:B.length=(z.filter λx=> !x.2 && D x.1.2).length:=by rw[a5,List.length_map]
  refine⟨λH i A=> ∃k:Nat,i=k/\k<=c.length/\H=(fl k).length/\Tg A b y q t/\Fr (spB b) s A,λ_ i _=>((c.length:Int)-i).toNat,⟨0,rfl,by omega,by rw[a4];rfl,T,Fr.refl _ _⟩,?_⟩
  rintro _ _ A ⟨k,rfl,hk,rfl,TA,fA⟩
  by_cases af:(k:Int)< (c.length:Int)
  case neg=>
    rw[if_neg af]
    obtain rfl:k=c.length:=by omega
    have e:(fl c.length).length=B.length:=by
      rw[outL,a4]
      show((z.take c.length).filter _).length=_
      rw[<-a2,List.take_length]
    rw[e]
    exact hQ A TA fA
  rw[if_pos af]
  have U:k<c.length:=by omega
  have dZ:k<O.length:=by rw[E.len];exact U
  have hd:((c.length:Int)-((k:Int)+1)).toNat< ((c.length:Int)-(k:Int)).toNat:=by omega
  have dc:IntKind.wrap .i64 ((k:Int)+1)=((k+1:Nat):Int):=by rw[w64 (n:=(k:Int)+1) (by omega)];rfl
  rw[dc]
  have hd:((c.length:Int)-((k+1:Nat):Int)).toNat< ((c.length:Int)-(k:Int)).toNat:=by omega
  have eN: ∀j:Nat,Int.toNat (j:Int)=j:=λj=>by omega
  have bw: ∀{K:zV},Fr (spB b) s K-> ∀j (h:j<c.length),∃a,eB=some a/\aP K (a.add (j*2)) 0 [vu c[j].1,vu c[j].2]:=λf j h=>(ho.keep f cS).entries j h
  have b9: ∀{K:zV},Fr (spB b) s K-> ∀j (h:j<c.length),∃a,lB=some a/\hat K (a.add j)=some (.bool (O[j]'(by rw[E.len];exact h))):=λf j h=>(d1.keep f cX).at (ue (List.getElem?_eq_getElem (by rw[E.len];exact h)))
  have bf:=List.getElem_mem U
  have de:(c[k],O[k])∈c.zip O:=by rw[<-hz,<-bh k U];exact List.getElem_mem (by rw[a2];exact U)
  have hS:=cJ k U
  obtain⟨a,ha,bM⟩:=bw fA k U
  obtain⟨cw,be,-⟩:=b9 fA k U
  have d0: ∀{K:zV},Fr (spB b) s K->hat K (cw.add k)=some (.bool O[k]):=λf=>by
    obtain⟨a',S,h⟩:=b9 f k U
    rw[be]at S
    cases S
    exact h
  have cT: ∀{K:zV},Fr (spB b) s K-> ∀(j:Nat) (h:j<c.length),aP K (a.add (j*2)) 0 [vu c[j].1,vu c[j].2]:=λf j h=>by
    obtain⟨a',S,h⟩:=bw f j h
    rw[ha]at S
    cases S
    exact h
  have cY: ∀{K:zV},Fr (spB b) s K-> ∀(j:Nat) (h:j<c.length),hat K (cw.add j)=some (.bool (O[j]'(by rw[E.len];exact h))):=λf j h=>by
    obtain⟨a',S,h⟩:=b9 f j h
    rw[be]at S
    cases S
    exact h
  obtain⟨w1,w2⟩:=E.word _ bf
  have d5:=E.rg _ bf
  have db:=E.vis _ bf
  have d4:=E.qu _ de
  generalize dR:c[k]=e at*
  generalize e1:O[k]=lv at*
  refine⟨a,ha,⟨by omega,af⟩,e.1,e.2,by rw[eN];exact bM,λc3 A2 cP cK=>?_⟩
  obtain⟨di,dj⟩:=gx (A3:=aV A2 (Addr.mk c3 0 none) [vu e.1,vu e.2] 0) cP cK [vu e.1,vu e.2] rfl
  refine⟨di,λA3 cL=>?_⟩
  obtain⟨k6,e3⟩:=dj rfl
  rw[<-cL]at k6 e3
  have bQ:A3[c3]?=some (.cells #[vu e.1,vu e.2] 36 (0,0)):=k6
  have bz:c3 ∉ spB b:=λh=>by have:=TA.lt (.inl (gH h));omega
  have T3:=TA.grow e3
  have f3:=fA.trans e3.fr
  refine⟨e.2,ig bQ 1,?_⟩
  refine HC.mono (fp T3.toTc w2) ?_
  rintro _ A4 ⟨rfl,e4⟩
  refine⟨_,rfl,?_⟩
  rw[ji T.on,d5]
  have T4:=T3.grow e4
  have f4:=f3.trans e4.fr
  have bi:=e4.get bQ
  by_cases hD:D e.2=true
  case neg=>
    rw[if_neg hD]
    refine⟨⟨k+1,rfl,by omega,?_,T4,f4⟩,hd⟩
    rw[hS,if_neg (by rw[Bool.and_eq_true];exact λh=>hD h.2)]
  rw[if_pos hD]
  obtain⟨v1,v2,r1,o1,o2,dl,bj⟩:=db hD
  refine⟨e.1,by rw[aK bi];rfl,e.2,ig bi 1,?_⟩
  refine HC.mono (fq T4 w1) ?_
  rw[v1]
  rintro _ A5 ⟨rfl,T5,f5⟩
  have bT:=f5.get bz bi
  refine⟨_,rfl,⟨ig bT 1,trivial⟩,?_⟩
  have T5:Tg A5 b y q t:=T5
  refine HC.mono (fq T5 w2) ?_
  rw[v2]
  rintro _ A6 ⟨rfl,T6,f6⟩
  have T6:Tg A6 b y q t:=T6
  have bU:=f6.get bz bT
  refine⟨_,rfl,e.1,by rw[aK bU];rfl,?_⟩
  refine HC.mono (fp T6.toTc w1) ?_
  rintro _ A7 ⟨rfl,en⟩
  refine⟨_,rfl,?_⟩
  rw[ji T.on,r1,if_pos rfl]
  have T7:=T6.grow en
  refine HC.mono (jD T7.toTc dl) ?_
  rintro _ A8 ⟨rfl,e8⟩
  refine⟨_,rfl,?_⟩
  rw[if_neg (by rw[decide_eq_true_eq];exact λh=>o1 h.2)]
  have T8:=T7.grow e8
  refine HC.mono (jD T8.toTc bj) ?_
  rintro _ A9 ⟨rfl,e9⟩
  refine⟨_,rfl,?_⟩
  rw[if_neg (by rw[decide_eq_true_eq];exact λh=>o2 h.2)]
  have T9:=T8.grow e9
  have f9:=(((f4.trans f5).trans f6).trans (en.trans (e8.trans e9)).fr)
  have dh:=(en.trans (e8.trans e9)).get bU
  refine⟨cw,be,⟨by omega,af⟩,lv,by rw[eN,Nat.mul_one];exact d0 f9,?_⟩
  cases lv with
  | false=>
    rw[if_neg (by decide)]
    rw[if_pos (by rw[hD];rfl)]at hS
    obtain⟨r,hr⟩:=cF (k+1) (by omega)
    rw[hS]at hr
    have bL:(fl k).length<B.length:=by rw[outL,hr,List.length_append,List.length_append,List.length_singleton];omega
    have bJ:B[(fl k).length]?=some (F e.1,F e.2):=by
      rw[a5,hr,List.map_append,List.map_append,List.append_assoc,List.getElem?_append_right (by rw[List.length_map];exact Nat.le_refl _),List.length_map,Nat.sub_self];rfl
    rw[if_neg (by omega)]
    obtain⟨dL,cN,bg⟩:=(d8.keep f9 d7).entries _ bL
    have cW:B[(fl k).length]=(F e.1,F e.2):=by
      rw[List.getElem?_eq_getElem bL]at bJ;exact Option.some.inj bJ
    rw[cW]at bg
    refine⟨dL,cN,⟨by omega,by omega⟩,F e.1,by
      rw[eN]
      have:=bg.1
      rw[k8]at this;exact this,?_⟩
    rw[if_pos rfl]
    refine⟨⟨by omega,by omega⟩,F e.2,by rw[eN];simpa using bg.2.1,?_⟩
    have:=cI k
    rw[if_pos rfl,w64 (n:=((fl k).length:Int)+1) (by omega)]
    exact⟨⟨k+1,rfl,by omega,by rw[hS,List.length_append];rfl,T9,f9⟩,hd⟩
  | true=>
    rw[if_pos rfl]
    rw[if_neg (by simp)]at hS
    have V9:View A9 (some ⟨b.h,0,none⟩) (some (b,y)):=.real T9.hp T9.ok
    refine HC.mono (iV V9 bj) ?_
    rintro _ dE ⟨rfl,ab⟩
    refine⟨_,rfl,?_⟩
    have bs:=T9.grow ab
    have bB:=f9.trans ab.fr
    have e7:(mof (some (b,y))).typ (F e.2)=y.sp.mem.typ (F e.2):=rfl
    by_cases ht:(mof (some (b,y))).typ (F e.2)=10
    case neg=>
      rw[if_neg ht]
      exact⟨⟨k+1,rfl,by omega,by rw[hS],bs,bB⟩,hd⟩
    rw[if_pos ht]
    obtain⟨Lq,Qa,cM,cQ⟩:=d4 rfl hD ht
    refine HC.mono (tZ (V9.ext ab) bj Qa cM) ?_
    rintro _ b4 ⟨qB,qC,rfl,d3,e5,ba⟩
    refine⟨_,_,_,_,rfl,?_⟩
    have ct:=bs.grow ba
    have cE:=bB.trans ba.fr
    have bS:=(ab.trans ba).get dh
    refine⟨λd i K=> ∃j:Nat,i=j/\j<=c.length/\d=(km D (z.take j) e:Nat)/\Ext b4 K,λ_ i _=>((c.length:Int)-i).toNat,⟨0,rfl,by omega,by simp[km],Ext.refl _⟩,?_⟩
    rintro _ _ cr ⟨j,rfl,hj,rfl,Z⟩
    have bu:=ct.grow Z
    have bc:=cE.trans Z.fr
    have a6:=Z.get bS
    have e6:km D (z.take j) e<=j:=Nat.le_trans List.countP_le_length (by rw[List.length_take];omega)
    by_cases a1:(j:Int)< (c.length:Int)
    case neg=>
      rw[if_neg a1,if_pos rfl]
      obtain rfl:j=c.length:=by omega
      have hq:=d3.ext Z
      have d2:(Lq.map Prod.snd).length<=1000000:=by rw[List.length_map];omega
      refine HC.mono (rZ (w:=F e.1) hq d2) ?_
      rintro _ bn ⟨rfl,bE⟩
      obtain rfl:cr=bn:=bE.symm
      refine⟨_,rfl,?_⟩
      have dy:km D z e<=(Lq.map Prod.snd).count (F e.1):=by rw[hz];exact cQ
      have da:z.take c.length=z:=by rw[<-a2,List.take_length]
      rw[da,if_neg (by omega)]
      exact⟨⟨k+1,rfl,by omega,by rw[hS],bu,bc⟩,hd⟩
    rw[if_pos a1]
    have W:j<c.length:=by omega
    have dU:j<O.length:=by rw[E.len];exact W
    have bI:((c.length:Int)-((j+1:Nat):Int)).toNat< ((c.length:Int)-(j:Int)).toNat:=by omega
    have dd:IntKind.wrap .i64 ((j:Int)+1)=((j+1:Nat):Int):=by rw[w64 (n:=(j:Int)+1) (by omega)];rfl
    have bF:km D (z.take (j+1)) e=km D (z.take j) e+if(O[j] && D c[j].2 && decide (c[j]=e))=true then 1 else 0:=by
      unfold km
      rw[List.take_succ_eq_append_getElem (by rw[a2];exact W),bh j W,List.countP_append,List.countP_cons,List.countP_nil,Nat.zero_add]
    rw[dd]
    have hl:=cY bc j W
    have hr:=cT bc j W
    have d6:=E.rg _ (List.getElem_mem W)
    have bO:=(E.word _ (List.getElem_mem W)).2
    have X: ∀{K:zV},Ext b4 K->(O[j] && D c[j].2 && decide (c[j]=e))≠true->(∃j':Nat,((j+1:Nat):Int)=j'/\j'<=c.length/\((km D (z.take j) e:Nat):Int)=(km D (z.take j') e:Nat)/\Ext b4 K)/\((c.length:Int)-((j+1:Nat):Int)).toNat< ((c.length:Int)-(j:Int)).toNat:=λ{K} e' hc=>⟨⟨j+1,rfl,by omega,by rw[bF,if_neg hc];rfl,e'⟩,bI⟩
    generalize e2:O[j]=lj at*
    generalize dT:c[j]=ej at*
    refine⟨⟨by omega,a1⟩,lj,by rw[eN,Nat.mul_one];exact hl,?_⟩
    cases lj with
    | false=>rw[if_neg (by decide)];exact X Z (by simp)
    | true=>
    rw[if_pos rfl]
    refine⟨⟨by omega,a1⟩,ej.2,by rw[eN];simpa using hr.2.1,e.1,by rw[aK a6];rfl,e.2,ig a6 1,?_⟩
    refine HC.mono (fp bu.toTc bO) ?_
    rintro _ bn ⟨rfl,bb⟩
    have ai:=bb.get a6
    refine⟨_,rfl,⟨by rw[nU,aK ai];rfl,trivial⟩,⟨ig ai 1,trivial⟩,?_⟩
    rw[ji T.on,d6]
    have N:=Z.trans bb
    have ah:=bb.rowAt hr
    by_cases ae:D ej.2=true
    case neg=>rw[if_neg ae];exact X N (by simp[ae])
    rw[if_pos ae]
    refine⟨⟨by omega,a1⟩,ej.1,by
      rw[eN]
      have:=ah.1
      rw[k8]at this;exact this,?_⟩
    by_cases h1:ej.1=e.1
    case neg=>rw[if_neg h1];exact X N (by simp[show ej≠e from λh=>h1 (by rw[h])])
    rw[if_pos h1]
    refine⟨⟨by omega,a1⟩,ej.2,by rw[eN];simpa using ah.2.1,?_⟩
    by_cases h2:ej.2=e.2
    case neg=>rw[if_neg h2];exact X N (by simp[show ej≠e from λh=>h2 (by rw[h])])
    rw[if_pos h2,w64 (n:=((km D (z.take j) e:Nat):Int)+1) (by omega)]
    exact⟨⟨j+1,rfl,by omega,by rw[bF,if_pos (by rw[ae,show ej=e from Prod.ext h1 h2];simp)];rfl,N⟩,bI⟩
theorem pW: ∀(n:Nat) (l:List Int),l.Nodup->(∀x∈l,0<=x/\x<n)->l.length<=n
 | 0,l,_,h=>by
  cases l with
  | nil=>exact Nat.le_refl _
  | cons x l=>have:=h x (by simp);omega
 | n+1,l,hd,h=>by
  have d:=pW n (l.filter λx=>decide (x≠(n:Int))) (hd.filter _) (λx a=>by
   rw[List.mem_filter,decide_eq_true_eq]at a
   have:=h x a.1
   omega)
  have b:l.length=(l.filter λx=>decide (x≠(n:Int))).length+l.count (n:Int):=by
   rw[<-List.countP_eq_length_filter,List.length_eq_countP_add_countP (λx:Int=>decide (x≠(n:Int)))]
   congr 1
   unfold List.count
   refine List.countP_congr λx _=>?_
   simp
  have c:l.count (n:Int)<=1:=List.nodup_iff_count.1 hd _
  omega
theorem pX{α:Type}(f:Int×Int->α): ∀(b:List (Int×Int)) (a:List Int) (c:List Bool) (p:(Int×Int)×Int->Bool) (d:(Int×Int)×Bool->Bool),a.length=b.length->c.length=b.length->(∀(i:Nat) (e:Int×Int) (x:Int) (y:Bool),b[i]?=some e->a[i]?=some x->c[i]?=some y->p (e,x)=d (e,y))->
  ((b.zip a).filter p).map (λz=>f z.1)=((b.zip c).filter d).map (λz=>f z.1)
 | [],a,c,p,d,_,_,_=>by simp
 | e::b,[],c,p,d,h,_,_=>by simp at h
 | e::b,x::a,[],p,d,_,h,_=>by simp at h
 | e::b,x::a,y::c,p,d,ha,hc,hp=>by
  have j:=pX f b a c p d (by simpa using ha) (by simpa using hc) (λi k r t m n o=>hp (i+1) k r t (by rw[List.getElem?_cons_succ];exact m) (by rw[List.getElem?_cons_succ];exact n) (by rw[List.getElem?_cons_succ];exact o))
  have l:=hp 0 e x y rfl rfl rfl
  rw[List.zip_cons_cons,List.zip_cons_cons,List.filter_cons,List.filter_cons,l]
  by_cases q:d (e,y)=true
  ·rw[if_pos q,if_pos q,List.map_cons,List.map_cons,j]
  ·rw[if_neg q,if_neg q];exact j
theorem rx: ∀(b:List (Int×Int)) (a:List Int) (c:List Bool) (p:(Int×Int)×Int->Bool) (d:(Int×Int)×Bool->Bool),a.length=b.length->c.length=b.length->(∀(i:Nat) (e:Int×Int) (x:Int) (y:Bool),b[i]?=some e->a[i]?=some x->c[i]?=some y->d (e,y)=true->p (e,x)=true)->
  (b.zip c).countP d<=(b.zip a).countP p
 | [],a,c,p,d,_,_,_=>by simp
 | e::b,[],c,p,d,h,_,_=>by simp at h
 | e::b,x::a,[],p,d,_,h,_=>by simp at h
 | e::b,x::a,y::c,p,d,ha,hc,hp=>by
  have r:=rx b a c p d (by simpa using ha) (by simpa using hc) (λi f n o k l m=>hp (i+1) f n o (by rw[List.getElem?_cons_succ];exact k) (by rw[List.getElem?_cons_succ];exact l) (by rw[List.getElem?_cons_succ];exact m))
  have j:=hp 0 e x y rfl rfl rfl
  rw[List.zip_cons_cons,List.zip_cons_cons,List.countP_cons,List.countP_cons]
  by_cases q:d (e,y)=true
  ·rw[if_pos q,if_pos (j q)];omega
  ·rw[if_neg q];omega
theorem cU.same{m b:Mem}(hm:aY m b){a:List Int}{l:List Nat}(h:cU b a l):cU m a l:=by
 have e:b.takenTo a b.limit=m.takenTo a m.limit:=by
  unfold Mem.takenTo
  rw[hm.limit]
  refine List.filter_congr λi _=>?_
  rw[(hm.seg i).2.2.2.1,(hm.seg i).1]
 refine⟨by rw[<-e];exact h.perm,h.sorted.imp λ{i j} q=>?_⟩
 rw[(hm.seg i).2.2.2.1,(hm.seg j).2.2.2.1]at q;exact q
theorem aY.weaks{m a:Mem}(hm:aY m a)(t:Tr)(l:List Nat):a.weaks t l=m.weaks t l:=by
 have b:a.weakSeg t=m.weakSeg t:=funext λk=>by
  unfold Mem.weakSeg
  rw[(hm.seg k).2.1,(hm.seg k).2.2.1]
 have d:a.weakCard=m.weakCard:=funext λc=>by
  have:(a.segOr c.1).kind=(m.segOr c.1).kind/\(a.segOr c.1).n=(m.segOr c.1).n:=by
   unfold Mem.segOr
   by_cases h:m.has c.1
   ·rw[if_pos h,if_pos (hm.has.2 h)];exact⟨(hm.seg _).2.1,(hm.seg _).2.2.1⟩
   ·rw[if_neg h,if_neg (λq=>h (hm.has.1 q))];exact⟨rfl,rfl⟩
  unfold Mem.weakCard
  rw[this.1,this.2]
 unfold Mem.weaks
 rw[b,d]
theorem aY.isPair{m a:Mem}(hm:aY m a){w:Int}(h:m.isPair w):a.isPair w:=by
 unfold Mem.isPair Mem.atW at*
 rw[hm.has,(hm.seg _).2.1,(hm.seg _).2.2.1];exact h
section
variable {Z:TZ} {g F0:Int} {fw:Int->Option Int} {al:List Int} {s:Sp} {sz:Int->Nat}
theorem qL{tr:Tr}(S:aW Z g F0)(t:Tri Z F0 fw al s sz)(B:gS Z.m g Z.T tr){l:List Nat}(y:cU s.mem [Z.T] l): ∀a∈s.mem.weaks tr l,s.mem.used a:=by
 intro a r
 have u:=t.ok.mem.lim
 unfold Mem.weaks at r
 rcases List.mem_append.1 r with h | h
 ·obtain⟨k,hk,h⟩:=List.mem_flatMap.1 h
  obtain⟨d,v,_,_⟩:=y.has hk
  have z:((k:Nat):Int).toNat=k:=by omega
  unfold Mem.weakSeg at h
  by_cases e:(s.mem.seg k).kind=1/\tr.old k=false
  case neg=>rw[if_neg e]at h;simp at h
  rw[if_pos e]at h
  obtain⟨j,f,rfl⟩:=gp.1 h
  rw[gR]at f
  have hn:=(t.ok.mem.seg k).n
  have x:0<=seenAt tr.frm k:=by
   rw[B.frmAt (k:=k) (by omega)]
   split
   ·exact(S.ok.seg _).n.1
   ·exact Int.le_refl _
  have b:((k:Int)*64+(seenAt tr.frm k+2*(j:Int))) / 64=k:=by omega
  have i:((k:Int)*64+(seenAt tr.frm k+2*(j:Int))) % 64=seenAt tr.frm k+2*(j:Int):=by omega
  exact⟨by omega,by rw[b];exact d,by rw[b,i,z];exact f⟩
 ·obtain⟨c,e,h⟩:=List.mem_flatMap.1 h
  obtain⟨w,A,C,D⟩:=B.cardOf S c e
  have o:=t.heads.has w
  have p:s.mem.segOr c.1=s.mem.seg c.1.toNat:=by unfold Mem.segOr;rw[if_pos o]
  unfold Mem.weakCard at h
  rw[p]at h
  by_cases hk:(s.mem.seg c.1.toNat).kind=1
  case neg=>rw[if_neg hk]at h;simp at h
  rw[if_pos hk]at h
  obtain⟨j,f,rfl⟩:=gp.1 h
  rw[gR]at f
  have hn:=(t.ok.mem.seg c.1.toNat).n
  have x:=o.1
  have b:(c.1*64+(c.2*16+2*(j:Int))) / 64=c.1:=by omega
  have i:(c.1*64+(c.2*16+2*(j:Int))) % 64=c.2*16+2*(j:Int):=by omega
  exact⟨by omega,by rw[b];exact o,by rw[b,i];omega⟩
end
section
variable {Z:TZ} {s0:Sp} {g:Int} {tr:Tr} {fw:Int->Option Int} {al:List Int} {sz:Int->Nat} {s3 s4 s5:Sp}
theorem gq.fwd(C:gq Z s0 g tr fw al sz s3 s4 s5){w:Int}(d:aG Z.O w):s4.mem.fwd w=s3.mem.fwd w:=by
 have c:=C.t.broke.same
 unfold Mem.fwd
 by_cases a:s3.mem.used (w / 8)
 ·have b:=c.used.2 a
  rw[C.brk.old _ a d.2.2]
  exact iC ⟨λq=>⟨a,q.2⟩,λq=>⟨b,q.2⟩⟩ _ _
 ·rw[if_neg (λq=>a (c.used.1 q.1)),if_neg (λq=>a q.1)]
theorem gq.reached(C:gq Z s0 g tr fw al sz s3 s4 s5)(w:Int):reachedB Z.O s4.mem w=reachedB Z.O s3.mem w:=by
 unfold reachedB
 by_cases a:aG Z.O w
 ·rw[C.fwd a]
 ·rw[zX a];rfl
theorem gq.visit(C:gq Z s0 g tr fw al sz s3 s4 s5){w:Int}(f:aC w)(d:Good Z.m Z.sz w)(c:Dn Z.O fw w):s4.visit Z.O Z.T w=(s4,Fw Z.O fw w):=by
 by_cases h:aG Z.O w
 ·obtain⟨b,a⟩:=c h
  have e:=C.t.tri.fwd_is C.t.S f d h
  rw[a,<-C.fwd h]at e
  rw[Sp.visit_fwd h e,fy h a]
 ·rw[Sp.visit_no h,ft h]
theorem gq.weaks(C:gq Z s0 g tr fw al sz s3 s4 s5){l:List Nat}(k:tr.old=Z.O)(n:cU s4.mem [Z.T] l)(f:aX s4.mem): ∀a∈s4.mem.weaks tr l,s4.mem.used a/\a<=1000000/\aC (s4.mem.get a)/\ ¬aG Z.O (s4.mem.get a):=by
 have i:=C.t.broke.same
 have c:=n.same i
 rw[i.weaks]
 intro a d
 obtain⟨p,r,u⟩:=l9 C.t.S C.t.tri C.t.begun c a d
 have e:=qL C.t.S C.t.tri C.t.begun c a d
 have j:=ou C.t.S C.t.tri C.t.begun k c a d
 refine⟨i.used.2 e,u,(f.seg _).words _,?_⟩
 obtain⟨v,o⟩:=C.t.tri.was e j
 rw[C.brk.exact a v e j p r o]
 by_cases q:aG Z.O v/\fw (v / 8)=none
 ·rw[if_pos q];exact l8 _
 ·rw[if_neg q]
  refine C.t.tri.fw_young λh=>?_
  cases m:fw (v / 8)with
  | none=>exact absurd ⟨h,m⟩ q
  | some b=>exact⟨b,rfl⟩
end
section
variable {M:Mem} {szM:Int->Nat} {O:Nat->Bool} {T g:Int} {V:Int->Prop} {q:Int->Option Int} {P:List Int} {fw:Int->Option Int} {al:List Int} {sz:Int->Nat} {ks:List (Int×Value)} {L N:Int->List (Int×Int)} {s0 s3 s4 s5:Sp} {tr:Tr}
theorem On.typ(h:On M szM O T g s0.mem.free V q P fw al s3 sz ks)(C:gq ⟨M,szM,O,T,V,q,P⟩ s0 g tr fw al sz s3 s4 s5){a:Int}(i:aC a)(f:Good M szM a)(m:Dn O fw a)(I:GI M szM L)(b:s4.mem.typ (Fw O fw a)=10):IsG M szM a/\s4.mem.isObj (Fw O fw a)/\s4.mem.len (Fw O fw a)=2:=by
 have S:=h.S
 have x:aX M:=S.ok
 have c:s4.mem.isObj (Fw O fw a):=Classical.byContradiction λhn=>by
  unfold Mem.typ at b
  rw[if_neg hn]at b;exact absurd b (by decide)
 have j:Fw O fw a % 8=3:=c.1.2.1
 rw[lm]at j
 have d:isTag a:=by unfold isTag;omega
 have r:hk (s4.mem.get (Fw O fw a / 8))=10:=by unfold Mem.typ at b;rw[if_pos c]at b;exact b
 have v:=(f.2 d).1
 obtain⟨z,hat⟩:=h.at' i f d m
 obtain⟨u,o,k,-⟩:=hat 0 (Nat.pos_of_ne_zero v)
 rw[show Fw O fw a / 8+((0:Nat):Int)=Fw O fw a / 8 by simp]at u o k
 have w:s4.mem.kAt (Fw O fw a / 8)=s3.mem.kAt (Fw O fw a / 8):=(C.t.broke.same.seg _).2.1
 have e:s4.mem.kAt (Fw O fw a / 8)=rawK (hk (s4.mem.get (Fw O fw a / 8))):=c.1.2.2.2.1
 rw[r,w,k]at e
 have p:M.kAt (a / 8)=2:=e
 have n:=h.header i f j m p
 have l:=(C.same u o (by rw[k,p];decide)).1
 have G:IsG M szM a:=⟨i,f,j,by rw[<-n,<-l];exact r⟩
 refine⟨G,c,?_⟩
 unfold Mem.len
 rw[if_pos c,l,n]
 exact I.two a G
theorem GS.read(h:On M szM O T g s0.mem.free V q P fw al s3 sz ks)(I:GI M szM L)(A:GS M szM O L N fw q P s3.mem)(C:gq ⟨M,szM,O,T,V,q,P⟩ s0 g tr fw al sz s3 s4 s5){b:Int}(G:IsG M szM b)(l:Dn O fw b)(X:s4.mem.isObj (Fw O fw b))(Y:s4.mem.typ (Fw O fw b)=10)(W:s4.mem.len (Fw O fw b)=2):
  QAt s4.mem (Fw O fw b) (LL O fw L N b)/\(LL O fw L N b).length<=100000:=by
 have S:=h.S
 have n:=A.toGN
 obtain⟨H,_⟩:=A.ch b G l
 have d: ∀e∈L b,Dn O fw e.1:=λe m=>(H e m).1
 have Q:=(A.both h I C G l).1
 have D:=C.t.broke.same
 have f: ∀i:Int,0<=i/\i<2->s4.mem.fieldE (Fw O fw b) 10 i=0:=λi hi=>by
  unfold Mem.fieldE
  rw[if_neg (λq=>by rcases q with q | q;exact q X;exact q Y),if_neg (by rw[W];omega)]
 have j:=n.nodup h I G d
 have u: ∀e∈LL O fw L N b,aC e.1/\s3.mem.isPair e.1/\s3.mem.used (e.1 / 8)/\s3.mem.used (e.1 / 8+1):=λe m=>by
  obtain⟨th,F,J,z,k⟩:=n.mem h I G l d m
  obtain⟨c,_⟩:=h.tri.places S (a:=e.1 / 8) (by omega) (i:=0) (by omega)
  obtain⟨E,_⟩:=h.tri.places S (a:=e.1 / 8) (by omega) (i:=1) (by omega)
  rw[show e.1 / 8+((0:Nat):Int)=e.1 / 8 by simp]at c
  have r:=h.tri.ok.mem.lim
  have R:=c.2.1.2.1
  have K:=c.1
  refine⟨⟨by omega,by omega⟩,⟨.inl ⟨⟨by omega,by omega⟩,F,c.2.1,k,c.2.2⟩,J⟩,c,E⟩
 refine⟨⟨⟨f 0 (by decide),f 1 (by decide)⟩,Q.f1,Q.f2,λl1 e l2 o=>?_,j⟩,?_⟩
 ·obtain⟨w,p,c,E⟩:=u e (by rw[o];simp)
  obtain⟨q1,q2⟩:=Q.el l1 e l2 o
  exact⟨D.isPair p,w,⟨by rw[Int.add_zero];exact D.used.2 c,D.used.2 E⟩,q1,q2⟩
 ·have U:(((LL O fw L N b).map Prod.fst).map λw=>w / 8).Nodup:=by
   unfold List.Nodup at j⊢
   rw[List.map_map,List.pairwise_map]
   rw[List.pairwise_map]at j
   refine j.imp_of_mem λ{x y} v hy B q=>B ?_
   have q:x.1 / 8=y.1 / 8:=q
   have F:=(n.mem h I G l d v).2.1
   have w2:=(n.mem h I G l d hy).2.1
   omega
  have:=pW 65536 _ U (λx v=>by
   rw[List.map_map]at v
   obtain⟨e,m,rfl⟩:=List.mem_map.1 v
   obtain⟨_,_,c,_⟩:=u e m
   have r:=h.tri.ok.mem.lim
   have R:=c.2.1.2.1
   have K:=c.1
   show 0<=e.1 / 8/\e.1 / 8<_
   omega)
  rw[List.length_map,List.length_map]at this
  omega
end
theorem uI{s0:Sp}{k:Int->Nat}{T g:Int}{tr:Tr}{z:List Int}{b:List (Int×Int)}{L:Int->List (Int×Int)}{s3 s4 n s5:Sp}{k4:List (Int×Value)}{c:List Int}{V:Int->Prop}{q:Int->Option Int}{P:List Int}{fw:Int->Option Int}{al:List Int}{sz:Int->Nat}{N:Int->List (Int×Int)}(E:GI s0.mem k L)(W:WuT s0 k T g tr z b L s3 s4 k4 c V q P fw al sz N)(A: ∀e∈b,kl s0.mem k e)
  (C:gq ⟨s0.mem,k,tr.old,T,V,q,P⟩ s0 g tr fw al sz s4 n s5) {y:Hp} (hy:y.sp=n):
  EnF y tr.old T b (ik tr.old s3.mem b) (Fw tr.old fw) (dnB tr.old fw) (outL tr.old fw b c)/\ ∀e∈b,Dn tr.old fw e.2->Dn tr.old fw e.1:=by
 have h:=W.on
 have S:=h.S
 have t:(ik tr.old s3.mem b).length=b.length:=by unfold ik;rw[List.length_map]
 have H: ∀(i:Nat) (e:Int×Int) (v:Bool),b[i]?=some e->(ik tr.old s3.mem b)[i]?=some v->v= !(reachedB tr.old s3.mem e.1):=λi e v j m=>by
  unfold ik at m
  rw[List.getElem?_map,j]at m
  exact(Option.some.inj m).symm
 have d1: ∀e∈b,Dn tr.old fw e.2->Dn tr.old fw e.1:=λe a hd=>by
  obtain⟨i,hi,rfl⟩:=List.getElem_of_mem a
  have B:b[i]?=some b[i]:=List.getElem?_eq_getElem hi
  obtain⟨v,D,F⟩:=W.marks i _ B
  rcases F with⟨_,rfl⟩ | ⟨_,rfl | rfl⟩
  ·exact W.set i _ 0 B D (by decide) hd
  ·exact absurd hd (W.more i _ B D)
  ·exact W.rdy i _ B D
 have I: ∀w,aC w->Good s0.mem k w->reachedB tr.old n.mem w=dnB tr.old fw w:=λw hw B=>by
  have e1:reachedB tr.old n.mem w=reachedB tr.old s4.mem w:=C.reached w
  have e2:reachedB tr.old s4.mem w=dnB tr.old fw w:=h.tri.reachedB S hw B
  rw[e1,e2]
 refine⟨⟨t,λe a=>⟨(A e a).1.1,(A e a).2.1⟩,λe a=>by rw[hy];exact I _ (A e a).2.1 (A e a).2.2,λe a o=>?_,?_,λx hx hl o ht=>?_⟩,d1⟩
 ·have d:=gT.1 o
  have p:=d1 e a d
  obtain⟨⟨X,Q⟩,Y,R⟩:=A e a
  rw[hy]
  obtain⟨ac,_,a3⟩:=h.tri.goodFw S X Q p
  obtain⟨b1,_,b3⟩:=h.tri.goodFw S Y R d
  exact⟨C.visit X Q p,C.visit Y R d,by rw[I _ X Q];exact gT.2 p,a3,b3,ac,b1⟩
 ·unfold outL
  refine pX (λe=>(Fw tr.old fw e.1,Fw tr.old fw e.2)) b c (ik tr.old s3.mem b) _ _ W.len t (λi e x v j m h3=>?_)
  have D:=H i e v j h3
  obtain⟨x',K,F⟩:=W.marks i e j
  rw[m]at K
  obtain rfl:=Option.some.inj K
  show(decide (x<2) && dnB tr.old fw e.2)=(!v && dnB tr.old fw e.2)
  by_cases o:dnB tr.old fw e.2=true
  ·rcases F with⟨r,rfl⟩ | ⟨r,rfl | rfl⟩
   ·rw[D,r,o];rfl
   ·exact absurd (gT.1 o) (W.more i e j m)
   ·rw[D,r,o];rfl
  ·have:dnB tr.old fw e.2=false:=by simpa using o
   rw[this,Bool.and_false,Bool.and_false]
 ·have a:x.1∈b:=(List.of_mem_zip hx).1
  obtain⟨⟨X,Q⟩,Y,R⟩:=A x.1 a
  have d:=gT.1 o
  rw[hy]at ht⊢
  obtain⟨G,ho,a2⟩:=h.typ C Y R d E ht
  obtain⟨Qa,a1⟩:=W.gs.read h E C G d ho ht a2
  refine⟨_,Qa,a1,?_⟩
  have c1:km (dnB tr.old fw) (b.zip (ik tr.old s3.mem b)) x.1<=rdyN b c x.1.2 x.1.1:=by
   refine rx b c (ik tr.old s3.mem b) _ _ W.len t (λi e v u j m h3 hp=>?_)
   rw[Bool.and_eq_true,Bool.and_eq_true,decide_eq_true_eq]at hp
   obtain⟨⟨U,p2⟩,p3⟩:=hp
   have U:u=true:=U
   have p2:dnB tr.old fw e.2=true:=p2
   have p3:e=x.1:=p3
   have hu:=H i e u j h3
   obtain⟨v',J,F⟩:=W.marks i e j
   rw[m]at J
   obtain rfl:=Option.some.inj J
   rw[decide_eq_true_eq]
   refine⟨p3,?_⟩
   show v=2
   rcases F with⟨r,_⟩ | ⟨r,r2 | r2⟩
   ·rw[hu,r]at U;cases U
   ·rw[r2]at m
    exact absurd (gT.1 p2) (W.more i e j m)
   ·exact r2
  have c2:=W.cnt x.1.2 x.1.1 G
  have c3:cntN N x.1.2 x.1.1<=((LL tr.old fw L N x.1.2).map Prod.snd).count (Fw tr.old fw x.1.1):=by
   unfold cntN LL
   rw[List.map_append,List.count_append,List.map_map,List.map_map]
   have j:=List.count_le_count_map (l:=(N x.1.2).map Prod.snd) (f:=Fw tr.old fw) (x:=x.1.1)
   rw[List.map_map]at j
   have e:List.map (Prod.snd ∘ λe:Int×Int=>(e.1,Fw tr.old fw e.2)) (N x.1.2)=List.map (Fw tr.old fw ∘ Prod.snd) (N x.1.2):=rfl
   rw[e]
   omega
  omega
variable{d:Blk}{i:Hp}{H j:zV}
theorem Bd.le{b:Int->Nat}{a:Int}{u v:Nat->Nat}(B:Bd H j d i b a u)(h: ∀o,u o<=v o):Bd H j d i b a v:=by
 obtain⟨c,e,g,l⟩:=B.cap.ex
 refine⟨B.live,B.inv,⟨⟨c,e,g,λk hk=>?_⟩,B.cap.gen,B.cap.lim⟩,B.cf⟩
 have m:=l k hk
 have n:=h k
 generalize i.sp.fill 0 k=f at*
 omega
theorem Bd.grow{b:zV}{c:Int->Nat}{a:Int}{u:Nat->Nat}(B:Bd H j d i c a u)(e:Ext j b):Bd H b d i c a u:=⟨B.live.grow e,B.inv,B.cap,B.cf⟩
theorem tA{l:Nat}(V:View j (some ⟨d.h,0,none⟩) (some (d,i)))(f:i=⟨⟨Mem.fresh l,λ_ _=>0⟩,vN,vN,0⟩)(e:Ext H j)(k: ∀m,m∈d.all->H.size<=m):Bd H j d i (λ_=>0) l (λ_=>0):=by
 obtain⟨-,g,c⟩:=V.inv
 have b: ∀a,¬i.sp.mem.used a:=λa h=>by rw[f]at h;exact absurd rfl h.2.1.2.2
 refine⟨⟨g,c,e,k⟩,⟨c,by rw[f];exact nh _,⟨λa h=>absurd rfl h,λa d h=>absurd rfl h,λa h=>absurd rfl h,λa h=>absurd rfl h,λa h=>absurd h (b a)⟩,λa h=>absurd h (b a)⟩,by rw[f];exact Cap0.fresh l,?_⟩
 rw[f]
 show(0:Int)+(l:Int)=l
 omega
theorem uf{k:Sp}{f:Int->Nat}{T g:Int}{a:Tr}{j made:List Int}{o:List (Int×Int)}{L:Int->List (Int×Int)}{s3 m b n:Sp}{k4:List (Int×Value)}{d:List Int}{V:Int->Prop}{q:Int->Option Int}{P:List Int}{i:Int->Option Int}{B:List Int}{l:Int->Nat}{N:Int->List (Int×Int)}(y:GI k.mem f L)(W:WuT k f T g a j o L s3 m k4 d V q P i B l N)(z: ∀e∈o,kl k.mem f e)
  (C:gq ⟨k.mem,f,a.old,T,V,q,P⟩ k g a i B l m b n) (Y:Pv k.mem f L made) (hm: ∀w∈made,aC w/\Good k.mem f w):
  ∃p,Inv n (szE a.old l)/\GI n.mem (szE a.old l) p/\Pv n.mem (szE a.old l) p ((made.filter (reachedB a.old b.mem)).map (Fw a.old i))/\
   (∀w∈(made.filter (reachedB a.old b.mem)).map (Fw a.old i),(aC w/\Good n.mem (szE a.old l) w)/\ ¬aG a.old w)/\(∀e∈outL a.old i o d,kl n.mem (szE a.old l) e)/\(∀w∈made,reachedB a.old b.mem w=true->b.visit a.old T w=(b,Fw a.old i w))/\outG a.old T m o d=(m,outL a.old i o d):=by
 have h:=W.on
 have S:=h.S
 have I: ∀w∈made,reachedB a.old b.mem w=true->Dn a.old i w:=λw c u=>by
  have U:reachedB a.old b.mem w=reachedB a.old m.mem w:=C.reached w
  have X:reachedB a.old m.mem w=dnB a.old i w:=h.tri.reachedB S (hm w c).1 (hm w c).2
  rw[U,X]at u
  exact gT.1 u
 have s: ∀w∈made.filter (reachedB a.old b.mem),w∈made/\Dn a.old i w:=λw c=>by
  rw[List.mem_filter]at c
  exact⟨c.1,I w c.1 c.2⟩
 obtain⟨p,M,O⟩:=W.gs.ends h y C (made:=made.filter (reachedB a.old b.mem)) (λw c=>Y w (s w c).1) (λw c=>(hm w (s w c).1).2) (λw c=>(s w c).2)
 refine⟨p,C.inv,M,O,λw c=>?_,λx hx=>?_,λw c u=>C.visit (hm w c).1 (hm w c).2 (I w c u),rq h z W.set⟩
 ·obtain⟨v,Z,rfl⟩:=List.mem_map.1 c
  obtain⟨r,H⟩:=s v Z
  obtain⟨Q,_,R⟩:=h.tri.goodFw S (hm v r).1 (hm v r).2 H
  exact⟨⟨Q,(C.t.good (hm v r).1 (hm v r).2 H).1⟩,R⟩
 ·obtain⟨e,A,rfl,D,E⟩:=tW h z W.set x hx
  obtain⟨⟨J,F⟩,K,G⟩:=z e A
  exact⟨⟨(h.tri.goodFw S J F D).1,(C.t.good J F D).1⟩,(h.tri.goodFw S K G E).1,(C.t.good K G E).1⟩
