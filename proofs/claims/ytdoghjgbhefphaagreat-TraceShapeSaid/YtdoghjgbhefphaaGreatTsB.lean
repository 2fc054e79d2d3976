/-
  A round of the law of traces (package morainelaw11): its acts, its roots. Proves nothing of any one statement.
-/
import Derived.Test.YtdoghjgbhefphaaGreatMadeB
import Derived.Test.YtdoghjgbhefphaaGreatLx
import Derived.Test.YtdoghjgbhefphaaGreatTrI
set_option linter.unusedVariables false
set_option linter.unusedSimpArgs false
namespace Go.Proofs.YtdoghjgbhefphaaGreat
open Go

structure St (H0 H:Array Obj) (b:Blk) (x:Hp) (sz:Int->Nat) (mB:Option Addr) (mC:Nat) (made:List Int):Prop where
  e:Ext H0 H
  view:View H (some ⟨b.h,0,none⟩) (some (b,x))
  inv:Inv x.sp sz
  own:Own H 36 1 mB made.length mC (wvs made)
  good: ∀w∈made,IsWord w/\Good x.sp.mem sz w
  hb: ∀j∈b.all,H0.size<=j
  hm: ∀j∈blks mB,H0.size<=j/\j ∉ b.all
theorem St.ext{H0 H H':Array Obj}{b:Blk}{x:Hp}{sz:Int->Nat}{mB:Option Addr}{mC:Nat}{made:List Int}(h:St H0 H b x sz mB mC made)(e:Ext H H'):St H0 H' b x sz mB mC made:=
  ⟨h.e.trans e,h.view.ext e,h.inv,h.own.ext e,h.good,h.hb,h.hm⟩
theorem St.blt{H0 H:Array Obj}{b:Blk}{x:Hp}{sz:Int->Nat}{mB:Option Addr}{mC:Nat}{made:List Int}(h:St H0 H b x sz mB mC made): ∀j∈b.all,j<H.size:=by
  obtain⟨-,hp,-⟩:=h.view.inv
  exact hp.lt
structure Slot (H:Array Obj) (c:Nat) (r:RoundOf):Prop where
  at':H[c]?=some (.cells #[.slice r.acts.p r.acts.n r.acts.c,.int .i64 r.g,.int .i64 r.target,.int .u32 r.keep] 93 (0,0))
theorem Slot.ext{H H':Array Obj}{c:Nat}{r:RoundOf}(h:Slot H c r)(e:Ext H H'):Slot H' c r:=⟨e.get h.at'⟩
theorem Slot.keep{S:List Nat}{H H':Array Obj}{c:Nat}{r:RoundOf}(h:Slot H c r)(f:Fr S H H')(hc:c ∉ S):Slot H' c r:=⟨f.get hc h.at'⟩
theorem Slot.g{H:Array Obj}{c:Nat}{r:RoundOf}(h:Slot H c r):hat H ((Addr.mk c 0 none).add 1)=some (.int .i64 r.g):=by rw[addr_add_mk,hat_blk h.at'];rfl
theorem Slot.target{H:Array Obj}{c:Nat}{r:RoundOf}(h:Slot H c r):hat H ((Addr.mk c 0 none).add 2)=some (.int .i64 r.target):=by rw[addr_add_mk,hat_blk h.at'];rfl
theorem Slot.kp{H:Array Obj}{c:Nat}{r:RoundOf}(h:Slot H c r):hat H ((Addr.mk c 0 none).add 3)=some (.int .u32 r.keep):=by rw[addr_add_mk,hat_blk h.at'];rfl

set_option maxRecDepth 100000 in
theorem acts_loop{Q:Option Addr->Nat->Nat->Array Obj->Prop}{H0 H9:Array Obj}{b:Blk}{x:Hp}{sz:Int->Nat}{mB:Option Addr}{mC mN c:Nat}{made:List Int}{r:RoundOf}(h:St H0 H9 b x sz mB mC made)(hcf:x.sp.cf<=100000)(hn:mN=made.length)(hml:made.length<=10000)
    (hs:Slot H9 c r) (hc:c ∉ b.all/\c ∉ blks mB/\H0.size<=c) (hA:SlOK 8 actOfR maxLen H0 r.acts) (hfew:r.acts.n<=401)
    (hQ: ∀(A:Array Obj) (mB':Option Addr) (mC':Nat) (made':List Int) (x':Hp) (sz':Int->Nat),St H0 A b x' sz' mB' mC' made'->x'.sp.cf=x.sp.cf->made'.length<=made.length+401->Slot A c r->c ∉ blks mB'->Q mB' made'.length mC' A):
    ∃(I46:(Option Addr)->Nat->Nat->Int->Array Obj->Prop) (m46:(Option Addr)->Nat->Nat->Int->Array Obj->Nat),I46 mB mN mC 0 H9/\ ∀(madeB_2:Option Addr) (madeN_2:Nat) (madeC_2:Nat) (k:Int) (H10:Array Obj),I46 madeB_2 madeN_2 madeC_2 k H10->
    ∃xB:Option Addr,∃xN:Nat,∃xC:Nat,hat H10 (Addr.mk c 0 none)=some (.slice xB xN xC)/\
    if k< (xN:Int)then(
     ∃xB_2:Option Addr,∃xN_2:Nat,∃xC_2:Nat,hat H10 (Addr.mk c 0 none)=some (.slice xB_2 xN_2 xC_2)/\
     ∃xB2A:Addr,xB_2=some xB2A/\
     ((0:Int)<=k/\k< (xN_2:Int))/\
     ∃xDo:Int,∃xKind:Int,∃xN_3:Int,∃xXW:Int,∃xXOf:Int,∃xYW:Int,∃xYOf:Int,∃xLB:Option Addr,∃xLN:Nat,∃xLC:Nat,RowAt H10 (xB2A.add (Int.toNat k*8)) 0 [.int .i64 xDo,.int .i64 xKind,.int .i64 xN_3,.int .u64 xXW,.int .i64 xXOf,.int .u64 xYW,.int .i64 xYOf,.slice xLB xLN xLC]/\
     morainelaw11_Made.C (some ⟨b.h,0,none⟩) xDo xKind xN_3 xXW xXOf xYW xYOf xLB xLN xLC madeB_2 madeN_2 madeC_2 H10 (λv_5 H11=> ∃xB_3:Option Addr,∃xN_4:Nat,∃xC_3:Nat,v_5=.slice xB_3 xN_4 xC_3/\
      (I46 xB_3 xN_4 xC_3 (IntKind.wrap .i64 (k+1)) H11/\m46 xB_3 xN_4 xC_3 (IntKind.wrap .i64 (k+1)) H11<m46 madeB_2 madeN_2 madeC_2 k H10)))
    else
    Q madeB_2 madeN_2 madeC_2 H10:=by
  have halen:=hA.len
  refine⟨λmB' mN' mC' k A=>(0<=k/\k<=r.acts.n)/\ ∃(made':List Int) (x':Hp) (sz':Int->Nat),mN'=made'.length/\St H0 A b x' sz' mB' mC' made'/\x'.sp.cf=x.sp.cf/\(made'.length:Int)<=made.length+k/\Slot A c r/\c ∉ blks mB',λ_ _ _ k _=>(r.acts.n-k).toNat,
    ⟨⟨by omega,by omega⟩,made,x,sz,hn,h,rfl,by omega,hs,hc.2.1⟩,?_⟩
  rintro mB' mN' mC' k A ⟨hk,made',x',sz',rfl,S,ecf,hlen,hsl,hcm⟩
  have hat0:hat A (Addr.mk c 0 none)=some (.slice r.acts.p r.acts.n r.acts.c):=by rw[hat_blk hsl.at'];rfl
  refine⟨_,_,_,hat0,?_⟩
  by_cases hlt:k< (r.acts.n:Int)
  case neg=>
    rw[if_neg hlt]
    exact hQ A mB' mC' made' x' sz' S ecf (by omega) hsl hcm
  rw[if_pos hlt]
  have hkN:k.toNat<r.acts.xs.length:=by omega
  obtain⟨ka,hka,hrk⟩:=hA.row k.toNat hkN
  have hok:ActOf.OK maxLen H0 r.acts.xs[k.toNat]:=hA.each _ (List.getElem_mem hkN)
  generalize r.acts.xs[k.toNat]=a at*
  refine⟨_,_,_,hat0,ka,hka,⟨hk.1,hlt⟩,_,_,_,_,_,_,_,_,_,_,S.e.rowAt hrk,?_⟩
  have hd:((r.acts.n:Int)-(k+1)).toNat< ((r.acts.n:Int)-k).toNat:=by omega
  rw[w64 (n:=k+1) (by omega)]
  refine HC.mono (made11_c S.view S.inv (by omega) S.own (λj hj=>(S.hm j hj).2) S.good (by omega) (actOfR.mono S.e hok)) ?_
  rintro _ A2 ⟨B',c',made2,x2,sz2,rfl,T⟩
  refine⟨_,_,_,rfl,⟨⟨by omega,by omega⟩,made2,x2,sz2,rfl,⟨?_,T.view,T.inv,T.own,T.good,S.hb,λj hj=>?_⟩,T.cf.trans ecf,?_,hsl.keep T.fr (λq=>?_),λq=>?_⟩,hd⟩
  · refine S.e.fr_trans T.fr (λj hj=>?_)
    rcases List.mem_append.1 hj with q | q
    · exact S.hb j (by simp at q;simp[Blk.all];omega)
    · exact(S.hm j q).1
  · rcases T.blk j hj with q | q
    · exact S.hm j q
    · have:=S.e.size
      exact⟨by omega,λhb=>by have:=S.blt j hb;omega⟩
  · have:=T.len;omega
  · rcases List.mem_append.1 q with q | q
    · exact hc.1 (by simp at q;simp[Blk.all];omega)
    · exact hcm q
  · rcases T.blk c q with t | t
    · exact hcm t
    · have:=lt_size hsl.at';omega
theorem kept_c{H:Array Obj}{keep i:Int}(hi:0<=i):morainelaw11_kept.C keep i H (λv H'=>(∃t:Bool,v=.bool t)/\H'=H):=by
  refine HC.via λR hR=>morainelaw11_kept.link ?_
  unfold morainelaw11_kept.pt
  have:=Int.tmod_nonneg 32 hi
  exact⟨this,hR _ _ ⟨⟨_,rfl⟩,rfl⟩⟩
set_option maxRecDepth 100000 in
theorem roots_loop{Q:Option Addr->Nat->Nat->Array Obj->Prop}{H0 H10:Array Obj}{b:Blk}{x:Hp}{sz:Int->Nat}{mB:Option Addr}{mC c:Nat}{made:List Int}{r:RoundOf}(h:St H0 H10 b x sz mB mC made)(hml:made.length<=100000)(hs:Slot H10 c r)
    (hQ: ∀(A:Array Obj) (rB:Option Addr) (rC:Nat) (roots:List Int),Ext H10 A->Own A 36 1 rB roots.length rC (wvs roots)->(∀j∈blks rB,H10.size<=j)->(∀w∈roots,w∈made)->roots.length<=made.length->Q rB roots.length rC A):
    ∃(I63:(Option Addr)->Nat->Nat->Int->Array Obj->Prop) (m63:(Option Addr)->Nat->Nat->Int->Array Obj->Nat),I63 none 0 0 0 H10/\ ∀(rootsB:Option Addr) (rootsN:Nat) (rootsC:Nat) (k_2:Int) (H12:Array Obj),I63 rootsB rootsN rootsC k_2 H12->
    if k_2< (made.length:Int)then(
     ∃raA:Addr,(some ⟨b.h,0,none⟩:Option Addr)=some raA/\
     ∃x_4:Option Addr,hat H12 raA=some (.pointer x_4)/\
     ∃madeB2A:Addr,mB=some madeB2A/\
     ((0:Int)<=k_2/\k_2< (made.length:Int))/\
     ∃x_5:Int,hat H12 (madeB2A.add (Int.toNat k_2*1))=some (.int .u64 x_5)/\
     card_Cards_Gen.C x_4 x_5 H12 (λv_6 H13=> ∃ra_2:Int,∃rb_2:Bool,v_6=.tuple #[.int .i64 ra_2,.bool rb_2]/\
      ∃x_6:Int,hat H13 ((Addr.mk c 0 none).add 3)=some (.int .u32 x_6)/\
      morainelaw11_kept.C x_6 k_2 H13 (λv_7 H14=> ∃x_7:Bool,v_7=.bool x_7/\
       if x_7=true then(
        ((0:Int)<=k_2/\k_2< (made.length:Int))/\
        ∃x_8:Int,hat H14 (madeB2A.add (Int.toNat k_2*1))=some (.int .u64 x_8)/\
        ∀(b_2:Nat) (H15:Array Obj),b_2=H14.size->H15=H14.push (.cells #[.int .u64 x_8] 36)->
        appendK 1 36 8 [.int .u64 0] rootsB rootsN rootsC (some (Addr.mk b_2 0 none)) 1 H15 (λap apC H16=>
         (I63 ap (rootsN+1) apC (IntKind.wrap .i64 (k_2+1)) H16/\m63 ap (rootsN+1) apC (IntKind.wrap .i64 (k_2+1)) H16<m63 rootsB rootsN rootsC k_2 H12)))
       else
       if rb_2=true then(
        ∃x_9:Int,hat H14 ((Addr.mk c 0 none).add 1)=some (.int .i64 x_9)/\
        if ra_2>x_9 then(
         ((0:Int)<=k_2/\k_2< (made.length:Int))/\
         ∃x_10:Int,hat H14 (madeB2A.add (Int.toNat k_2*1))=some (.int .u64 x_10)/\
         ∀(b_3:Nat) (H17:Array Obj),b_3=H14.size->H17=H14.push (.cells #[.int .u64 x_10] 36)->
         appendK 1 36 8 [.int .u64 0] rootsB rootsN rootsC (some (Addr.mk b_3 0 none)) 1 H17 (λap_2 apC_2 H18=>
          (I63 ap_2 (rootsN+1) apC_2 (IntKind.wrap .i64 (k_2+1)) H18/\m63 ap_2 (rootsN+1) apC_2 (IntKind.wrap .i64 (k_2+1)) H18<m63 rootsB rootsN rootsC k_2 H12)))
        else
        (I63 rootsB rootsN rootsC (IntKind.wrap .i64 (k_2+1)) H14/\m63 rootsB rootsN rootsC (IntKind.wrap .i64 (k_2+1)) H14<m63 rootsB rootsN rootsC k_2 H12))
       else
       (I63 rootsB rootsN rootsC (IntKind.wrap .i64 (k_2+1)) H14/\m63 rootsB rootsN rootsC (IntKind.wrap .i64 (k_2+1)) H14<m63 rootsB rootsN rootsC k_2 H12))))
    else
    Q rootsB rootsN rootsC H12:=by
  refine⟨λrB rN rC k A=>(0<=k/\k<=made.length)/\ ∃roots:List Int,rN=roots.length/\Ext H10 A/\Own A 36 1 rB roots.length rC (wvs roots)/\(∀j∈blks rB,H10.size<=j)/\(∀w∈roots,w∈made)/\(roots.length:Int)<=k,λ_ _ _ k _=>(made.length-k).toNat,
    ⟨⟨by omega,by omega⟩,[],rfl,Ext.refl _,own_nil,λj hj=>by simp at hj,λw hw=>by simp at hw,by simp⟩,?_⟩
  rintro rB rN rC k A ⟨hk,roots,rfl,eA,ho,hbl,hin,hlen⟩
  by_cases hlt:k< (made.length:Int)
  case neg=>
    rw[if_neg hlt]
    exact hQ A rB rC roots eA ho hbl hin (by omega)
  rw[if_pos hlt]
  have hkN:k.toNat<made.length:=by omega
  have hmem:=List.getElem_mem hkN
  obtain⟨ma,hma,hatm⟩:=src_wv (h.own.src.ext eA) hkN
  obtain⟨-,hp,-⟩:=(h.view.ext eA).inv
  refine⟨_,rfl,_,hp.hPtr,ma,hma,⟨hk.1,hlt⟩,_,hatm,?_⟩
  generalize made[k.toNat]=w at*
  have hd:((made.length:Int)-(k+1)).toNat< ((made.length:Int)-k).toNat:=by omega
  rw[w64 (n:=k+1) (by omega)]
  refine HC.mono (card_Gen_c hp.cd (h.good w hmem).1) ?_
  rintro _ A1 ⟨rfl,e1⟩
  refine⟨_,_,rfl,_,(hs.ext (eA.trans e1)).kp,?_⟩
  refine HC.mono (kept_c hk.1) ?_
  rintro _ A2 ⟨⟨t,rfl⟩,rfl⟩
  have e2:=eA.trans e1
  have stay:(((0<=k+1/\k+1<=made.length)/\ ∃roots':List Int,roots.length=roots'.length/\Ext H10 A2/\Own A2 36 1 rB roots'.length rC (wvs roots')/\(∀j∈blks rB,H10.size<=j)/\(∀w∈roots',w∈made)/\(roots'.length:Int)<=k+1)/\((made.length:Int)-(k+1)).toNat< ((made.length:Int)-k).toNat):=
    ⟨⟨⟨by omega,by omega⟩,roots,rfl,e2,ho.ext e1,hbl,hin,by omega⟩,hd⟩
  have add: ∀(b_2:Nat) (H15:Array Obj),b_2=A2.size->H15=A2.push (.cells #[.int .u64 w] 36)->appendK 1 36 8 [.int .u64 0] rB roots.length rC (some (Addr.mk b_2 0 none)) 1 H15 (λap apC H16=>
      (((0<=k+1/\k+1<=made.length)/\ ∃roots':List Int,roots.length+1=roots'.length/\Ext H10 H16/\Own H16 36 1 ap roots'.length apC (wvs roots')/\(∀j∈blks ap,H10.size<=j)/\(∀w∈roots',w∈made)/\(roots'.length:Int)<=k+1)/\((made.length:Int)-(k+1)).toNat< ((made.length:Int)-k).toNat)):=λb2 H15 hb2 hH15=>by
    have e5:Ext A2 H15:=Ext.push' hH15
    refine own_append (ys:=wvs [w]) ((ho.ext e1).ext e5) (rowAt_blk (push_get hb2 hH15) _ 0 0 (λj hj=>by
      simp only[wvs,List.map_cons,List.map_nil,List.length_cons,List.length_nil]at hj
      obtain rfl:j=0:=by omega
      rfl)) rfl (allOne_wvs _) rfl (by omega) ?_
    intro B' c' H6 ho6 f6 hn6
    have z5:=e5.size
    have z2:=e2.size
    have hl2:(roots++[w]).length=roots.length+1:=by simp
    refine⟨⟨⟨by omega,by omega⟩,roots++[w],hl2.symm,(e2.trans e5).fr_trans f6 hbl,by rw[hl2];simpa[wvs]using ho6,λj hj=>?_,λv hv=>?_,by rw[hl2];omega⟩,hd⟩
    · rcases hn6 j hj with q | q
      · exact hbl j q
      · omega
    · rcases List.mem_append.1 hv with q | q
      · exact hin v q
      · simp at q;rw[q];exact hmem
  refine⟨_,rfl,?_⟩
  have hat2:hat A2 (ma.add (k.toNat*1))=some (.int .u64 w):=e1.hat hatm
  by_cases ht:t=true
  · rw[if_pos ht]
    exact⟨⟨hk.1,hlt⟩,_,hat2,add⟩
  rw[if_neg ht]
  by_cases hg:(x.sp.mem.genOf w).2=true
  · rw[if_pos hg]
    refine⟨_,(hs.ext e2).g,?_⟩
    by_cases hgg:(x.sp.mem.genOf w).1>r.g
    · rw[if_pos hgg]
      exact⟨⟨hk.1,hlt⟩,_,hat2,add⟩
    · rw[if_neg hgg];exact stay
  · rw[if_neg hg];exact stay
end Go.Proofs.YtdoghjgbhefphaaGreat

namespace Go.Proofs.YtdoghjgbhefphaaGreat
open Go

set_option maxRecDepth 100000 in
theorem above_loop{Q:Int->Array Obj->Prop}{H21:Array Obj}{b:Blk}{y:Hp}{G:Int}(hp:HpAt H21 b y)(ok:SpOK y.sp)(hG:0<=G/\G<4)(hQ: ∀A,Ext H21 A->Q (y.sp.mem.above G) A):
    ∃(I98:Int->Int->Array Obj->Prop) (m98:Int->Int->Array Obj->Nat),I98 0 (IntKind.wrap .i64 (G+1)) H21/\ ∀(above:Int) (g:Int) (H22:Array Obj),I98 above g H22->
        if g<=4 then(
         ∃raA_2:Addr,(some ⟨b.h,0,none⟩:Option Addr)=some raA_2/\
         ∃x_16:Option Addr,hat H22 raA_2=some (.pointer x_16)/\
         ∃x16A:Addr,x_16=some x16A/\
         ∃x_17:Option Addr,hat H22 x16A=some (.pointer x_17)/\
         ∀(b_4:Nat) (H23:Array Obj),b_4=H22.size->H23=H22.push (.cells #[.int .i64 g] 3)->
         space_Space_Words.C x_17 (some (Addr.mk b_4 0 none)) 1 1 H23 (λv_11 H24=> ∃x_18:Int,v_11=.int .i64 x_18/\
          (I98 (IntKind.wrap .i64 (above+x_18)) (IntKind.wrap .i64 (g+1)) H24/\m98 (IntKind.wrap .i64 (above+x_18)) (IntKind.wrap .i64 (g+1)) H24<m98 above g H22)))
        else
        Q above H22:=by
  have hle: ∀g,y.sp.mem.above g<=65536:=λg=>by
    unfold Mem.above Mem.cnt
    refine Nat.le_trans List.countP_le_length ?_
    rw[List.length_range,tops_eq];exact Nat.le_refl _
  refine⟨λabove g A=>(G+1<=g/\g<=5)/\Ext H21 A/\above+y.sp.mem.above (g-1)=y.sp.mem.above G,λ_ g _=>(5-g).toNat,?_,?_⟩
  · rw[w64 (n:=G+1) (by omega)]
    exact⟨⟨by omega,by omega⟩,Ext.refl _,by rw[show G+1-1=G by omega];omega⟩
  rintro above g A ⟨hg,eA,hab⟩
  by_cases hlt:g<=4
  case neg=>
    rw[if_neg hlt]
    rw[Mem.above_4 ok.mem (by omega)]at hab
    have:=hQ A eA
    rw[<-hab]at this
    simpa using this
  rw[if_pos hlt]
  have hpA:=hp.ext eA
  refine⟨_,rfl,_,hpA.hPtr,_,rfl,_,hpA.cd.cPtr,λb4 H4 hb4 hH4=>?_⟩
  have e4:Ext A H4:=Ext.push' hH4
  have hd:(5-(g+1)).toNat< (5-g).toNat:=by omega
  have h0:=hle G
  have h1:=hle (g-1)
  have hst:=Mem.above_step ok.mem g
  have hwb:=hle g
  refine HC.mono (space_Words_c (gs:=[g]) (hpA.ext e4).cd.sp ok (show SrcAt H4 (some ⟨b4,0,none⟩) (ivs [g])from⟨by rw[addr_add_mk,hat_blk (push_get hb4 hH4)];rfl,trivial⟩) rfl (by decide)) ?_
  rintro _ H5 ⟨rfl,e5⟩
  refine⟨_,rfl,?_⟩
  rw[w64 (n:=g+1) (by omega),w64 (n:=above+y.sp.mem.words [g]) (by omega)]
  exact⟨⟨⟨by omega,by omega⟩,(eA.trans e4).trans e5,by rw[show g+1-1=g by omega];omega⟩,hd⟩

def Sp.visL(O:Nat->Bool)(T:Int)(s:Sp)(l:List Int):Sp×List Int:=l.foldl (λst w=>((st.1.visit O T w).1,st.2++[(st.1.visit O T w).2])) (s,[])
theorem Sp.visL_snoc(O:Nat->Bool)(T:Int)(s:Sp)(l:List Int)(w:Int):s.visL O T (l++[w])=(((s.visL O T l).1.visit O T w).1,(s.visL O T l).2++[((s.visL O T l).1.visit O T w).2]):=by
  unfold Sp.visL
  rw[List.foldl_append];rfl
theorem Sp.visL_len(O:Nat->Bool)(T:Int)(s:Sp)(l:List Int):(s.visL O T l).2.length=l.length:=by
  have: ∀(l:List Int) (st:Sp×List Int),(l.foldl (λst w=>((st.1.visit O T w).1,st.2++[(st.1.visit O T w).2])) st).2.length=st.2.length+l.length:=λl=>by
    induction l with
    | nil=>intro st;rfl
    | cons w l ih=>intro st;simp only[List.foldl_cons];rw[ih];simp;omega
  unfold Sp.visL
  rw[this];simp
set_option maxRecDepth 100000 in
theorem visit_loop{Q:Option Addr->Nat->Nat->Array Obj->Prop}{H22:Array Obj}{b:Blk}{y:Hp}{q:TB}{t:Tr}{rB:Option Addr}{rC:Nat}{roots:List Int}(T:Tg H22 b y q t)(hr:Own H22 36 1 rB roots.length rC (wvs roots))(hrd: ∀j∈blks rB,j ∉ b.all)(hw: ∀w∈roots,IsWord w)(hl:roots.length<=100000)
    (hQ: ∀(A:Array Obj) (yB:Option Addr) (yC:Nat),Own A 36 1 yB (y.sp.visL t.old t.tgt roots).2.length yC (wvs (y.sp.visL t.old t.tgt roots).2)->(∀j∈blks yB,H22.size<=j)->Tg A b {y with sp:=(y.sp.visL t.old t.tgt roots).1} q t->Fr (spB b) H22 A->Q yB (y.sp.visL t.old t.tgt roots).2.length yC A):
        ∃(I113:(Option Addr)->Nat->Nat->Int->Array Obj->Prop) (m113:(Option Addr)->Nat->Nat->Int->Array Obj->Nat),I113 none 0 0 0 H22/\ ∀(youngB:Option Addr) (youngN:Nat) (youngC:Nat) (k_3:Int) (H25:Array Obj),I113 youngB youngN youngC k_3 H25->
        if k_3< (roots.length:Int)then(
         ∃rootsBA:Addr,rB=some rootsBA/\
         ((0:Int)<=k_3/\k_3< (roots.length:Int))/\
         ∃x_19:Int,hat H25 (rootsBA.add (Int.toNat k_3*1))=some (.int .u64 x_19)/\
         trace_Trace_Visit.C (some ⟨q.t,0,none⟩) x_19 H25 (λv_12 H26=> ∃x_20:Int,v_12=.int .u64 x_20/\
          ∀(b_5:Nat) (H27:Array Obj),b_5=H26.size->H27=H26.push (.cells #[.int .u64 x_20] 36)->
          appendK 1 36 8 [.int .u64 0] youngB youngN youngC (some (Addr.mk b_5 0 none)) 1 H27 (λap_3 apC_3 H28=>
           (I113 ap_3 (youngN+1) apC_3 (IntKind.wrap .i64 (k_3+1)) H28/\m113 ap_3 (youngN+1) apC_3 (IntKind.wrap .i64 (k_3+1)) H28<m113 youngB youngN youngC k_3 H25))))
        else
        Q youngB youngN youngC H25:=by
  have hlt0: ∀j,j∈b.all\/j∈q.all->j<H22.size:=λj hj=>T.lt hj
  refine⟨λyB yN yC k A=>(0<=k/\k<=roots.length)/\yN=k.toNat/\Own A 36 1 yB k.toNat yC (wvs (y.sp.visL t.old t.tgt (roots.take k.toNat)).2)/\(∀j∈blks yB,H22.size<=j)/\Tg A b {y with sp:=(y.sp.visL t.old t.tgt (roots.take k.toNat)).1} q t/\Fr (spB b) H22 A,λ_ _ _ k _=>(roots.length-k).toNat,
    ⟨⟨by omega,by omega⟩,rfl,own_nil,λj hj=>by simp at hj,T,Fr.refl _ _⟩,?_⟩
  rintro yB yN yC k A ⟨hk,rfl,hy,hyb,TA,fA⟩
  by_cases hlt:k< (roots.length:Int)
  case neg=>
    rw[if_neg hlt]
    have e:k.toNat=roots.length:=by omega
    have hvl:=Sp.visL_len t.old t.tgt y.sp roots
    rw[e,List.take_length]at hy TA
    rw[e]
    have:=hQ A yB yC (by rw[hvl];exact hy) hyb TA fA
    rw[hvl]at this
    exact this
  rw[if_pos hlt]
  have hkN:k.toNat<roots.length:=by omega
  have hmem:=List.getElem_mem hkN
  have hrA:=hr.keep fA (λj hj hs=>hrd j hj (spB_all hs))
  obtain⟨a,ha,hata⟩:=src_wv hrA.src hkN
  have htk:roots.take (k+1).toNat=roots.take k.toNat++[roots[k.toNat]]:=by rw[show(k+1).toNat=k.toNat+1 by omega,List.take_succ_eq_append_getElem hkN]
  refine⟨a,ha,⟨hk.1,hlt⟩,_,hata,?_⟩
  generalize roots[k.toNat]=w at*
  have hd:((roots.length:Int)-(k+1)).toNat< ((roots.length:Int)-k).toNat:=by omega
  rw[w64 (n:=k+1) (by omega)]
  refine HC.mono (tg_Visit_c TA (hw w hmem)) ?_
  rintro _ A2 ⟨rfl,T2,f2⟩
  have hybn: ∀j∈blks yB,j ∉ b.all/\j ∉ q.all:=λj hj=>⟨λh=>by have:=hlt0 j (.inl h);have:=hyb j hj;omega,λh=>by have:=hlt0 j (.inr h);have:=hyb j hj;omega⟩
  refine⟨_,rfl,λb5 H5 hb5 hH5=>?_⟩
  have e5:Ext A2 H5:=Ext.push' hH5
  have hvl:=Sp.visL_len t.old t.tgt y.sp (roots.take k.toNat)
  rw[List.length_take,Nat.min_eq_left (by omega)]at hvl
  refine own_append (ys:=wvs [((y.sp.visL t.old t.tgt (roots.take k.toNat)).1.visit t.old t.tgt w).2]) ((hy.keep f2 (λj hj hs=>(hybn j hj).1 (spB_all hs))).ext e5) (rowAt_blk (push_get hb5 hH5) _ 0 0 (λj hj=>by
    simp only[wvs,List.map_cons,List.map_nil,List.length_cons,List.length_nil]at hj
    obtain rfl:j=0:=by omega
    rfl)) rfl (allOne_wvs _) rfl (by omega) ?_
  intro B' c' H6 ho6 f6 hn6
  have zA:=fA.size
  have z2:=f2.size
  have z5:=e5.size
  have hvs:y.sp.visL t.old t.tgt (roots.take (k+1).toNat)=(((y.sp.visL t.old t.tgt (roots.take k.toNat)).1.visit t.old t.tgt w).1,(y.sp.visL t.old t.tgt (roots.take k.toNat)).2++[((y.sp.visL t.old t.tgt (roots.take k.toNat)).1.visit t.old t.tgt w).2]):=by rw[htk,Sp.visL_snoc]
  refine⟨⟨⟨by omega,by omega⟩,by omega,?_,λj hj=>?_,?_,?_⟩,hd⟩
  · rw[hvs,show(k+1).toNat=k.toNat+1 by omega]
    simpa[wvs]using ho6
  · rcases hn6 j hj with r | r
    · exact hyb j r
    · omega
  · rw[hvs]
    exact(T2.grow e5).stay f6 (λi hi=>(hybn i hi).1) (λi hi=>(hybn i hi).2)
  · exact(fA.trans (f2.trans e5.fr)).trans' f6 (λj hj _=>hj) (λj hj hl=>by have:=hyb j hj;omega)

def brk(O:Nat->Bool)(m:Mem)(a:Int):Mem:=if isOldW O (m.read a)then m.wr a 44 else m
theorem brk_same(O:Nat->Bool)(m:Mem)(a:Int):Same' m (brk O m a):=by
  unfold brk
  split
  · exact Same'.wr m a 44
  · exact Same'.refl m
theorem brk_ok{s:Sp}(ok:SpOK s)(O:Nat->Bool)(a:Int):SpOK {s with mem:=brk O s.mem a}:=by
  unfold brk
  split
  · exact ok.wr a (by decide)
  · exact ok
theorem brks_same(O:Nat->Bool): ∀(l:List Int) (m:Mem),Same' m (l.foldl (brk O) m)
  | [],m=>Same'.refl m
  | a::l,m=>(brk_same O m a).trans (brks_same O l _)
theorem brks_ok(O:Nat->Bool): ∀(l:List Int) {s:Sp},SpOK s->SpOK {s with mem:=l.foldl (brk O) s.mem}
  | [],s,ok=>ok
  | a::l,s,ok=>brks_ok O l (brk_ok ok O a)
set_option maxRecDepth 100000 in
theorem weaks_loop{Q:Array Obj->Prop}{H31:Array Obj}{b:Blk}{y:Hp}{q:TB}{t:Tr}{wB:Option Addr}{wN wC:Nat}{W:List Int}(T:Tg H31 b y q t)(hWn:wN=W.length)(hr:Own H31 3 1 wB wN wC (ivs W))(hrd: ∀j∈blks wB,j ∉ b.all)(hw: ∀a∈W,a<=1000000)(hl:wN<=300000)
    (hQ : ∀ (A : Array Obj), Tg A b { y with sp := { y.sp with mem := W.foldl (brk t.old) y.sp.mem } } q t → Fr (spB b) H31 A → Q A) :
           ∃(I134:Int->Array Obj->Prop) (m134:Int->Array Obj->Nat),I134 0 H31/\ ∀(k_4:Int) (H32:Array Obj),I134 k_4 H32->
           if k_4< (wN:Int)then(
            ∃raA_3:Addr,(some ⟨b.h,0,none⟩:Option Addr)=some raA_3/\
            ∃x_21:Option Addr,hat H32 raA_3=some (.pointer x_21)/\
            ∃x21A:Addr,x_21=some x21A/\
            ∃x_22:Option Addr,hat H32 x21A=some (.pointer x_22)/\
            ∃x22A:Addr,x_22=some x22A/\
            ∃x_23:Option Addr,hat H32 x22A=some (.pointer x_23)/\
            ∃xB5A:Addr,wB=some xB5A/\
            ((0:Int)<=k_4/\k_4< (wN:Int))/\
            ∃x_24:Int,hat H32 (xB5A.add (Int.toNat k_4*1))=some (.int .i64 x_24)/\
            seg_Mem_Read.C x_23 x_24 H32 (λv_16 H33=> ∃ra_4:Int,∃rb_4:Int,v_16=.tuple #[.int .u64 ra_4,.int .i64 rb_4]/\
             trace_Trace_Old.C (some ⟨q.t,0,none⟩) ra_4 H33 (λv_17 H34=> ∃x_25:Bool,v_17=.bool x_25/\
              if x_25=true then(
               ∃x_26:Option Addr,hat H34 raA_3=some (.pointer x_26)/\
               ∃x26A:Addr,x_26=some x26A/\
               ∃x_27:Option Addr,hat H34 x26A=some (.pointer x_27)/\
               ∃x27A:Addr,x_27=some x27A/\
               ∃x_28:Option Addr,hat H34 x27A=some (.pointer x_28)/\
               ((0:Int)<=k_4/\k_4< (wN:Int))/\
               ∃x_29:Int,hat H34 (xB5A.add (Int.toNat k_4*1))=some (.int .i64 x_29)/\
               seg_Mem_Write.C x_28 x_29 44 H34 (λv_18 H35=> ∃x_30:Int,v_18=.int .i64 x_30/\
                (I134 (IntKind.wrap .i64 (k_4+1)) H35/\m134 (IntKind.wrap .i64 (k_4+1)) H35<m134 k_4 H32)))
              else
              (I134 (IntKind.wrap .i64 (k_4+1)) H34/\m134 (IntKind.wrap .i64 (k_4+1)) H34<m134 k_4 H32))))
           else
           Q H32:=by
  subst hWn
  refine⟨λk A=>(0<=k/\k<=W.length)/\Tg A b {y with sp:={y.sp with mem:=(W.take k.toNat).foldl (brk t.old) y.sp.mem}} q t/\Fr (spB b) H31 A,λk _=>(W.length-k).toNat,
    ⟨⟨by omega,by omega⟩,T,Fr.refl _ _⟩,?_⟩
  rintro k A ⟨hk,TA,fA⟩
  by_cases hlt:k< (W.length:Int)
  case neg=>
    rw[if_neg hlt]
    rw[List.take_of_length_le (by omega)]at TA
    exact hQ A TA fA
  rw[if_pos hlt]
  have hkN:k.toNat<W.length:=by omega
  have hmem:=List.getElem_mem hkN
  have hrA:=hr.keep fA (λj hj hs=>hrd j hj (spB_all hs))
  obtain⟨a,ha,hata⟩:=src_int hrA.src (i:=k.toNat) hkN
  have htk:W.take (k+1).toNat=W.take k.toNat++[W[k.toNat]]:=by rw[show(k+1).toNat=k.toNat+1 by omega,List.take_succ_eq_append_getElem hkN]
  have hfo:(W.take (k+1).toNat).foldl (brk t.old) y.sp.mem=brk t.old ((W.take k.toNat).foldl (brk t.old) y.sp.mem) W[k.toNat]:=by rw[htk,List.foldl_append];rfl
  have hwk:=hw _ hmem
  generalize W[k.toNat]=w at*
  have hp:=TA.hp
  have hd:((W.length:Int)-(k+1)).toNat< ((W.length:Int)-k).toNat:=by omega
  refine⟨_,rfl,_,hp.hPtr,_,rfl,_,hp.cd.cPtr,_,rfl,_,hp.cd.sp.memPtr,a,ha,⟨hk.1,hlt⟩,_,hata,?_⟩
  rw[w64 (n:=k+1) (by omega)]
  generalize hmm:(W.take k.toNat).foldl (brk t.old) y.sp.mem=m at*
  refine HC.mono (seg_Read_w hp.cd.sp.mem TA.ok.mem (by omega)) ?_
  rintro _ A1 ⟨rfl,rfl⟩
  refine⟨_,_,rfl,?_⟩
  have hrw:IsWord (m.read w):=Mem.read_word TA.ok.mem w
  refine HC.mono (tr_Old_c TA.toTc hrw) ?_
  rintro _ A2 ⟨rfl,e2⟩
  refine⟨_,rfl,?_⟩
  have T2:=TA.grow e2
  have hp2:=T2.hp
  by_cases ho:isOldW t.old (m.read w)
  · rw[if_pos (decide_eq_true ⟨TA.on,ho⟩)]
    refine⟨_,hp2.hPtr,_,rfl,_,hp2.cd.cPtr,_,rfl,_,hp2.cd.sp.memPtr,⟨hk.1,hlt⟩,_,e2.hat hata,?_⟩
    refine HC.mono (seg_Write_c hp2.cd.sp.mem T2.ok.mem (by omega)) ?_
    rintro _ A3 ⟨rfl,hm3,f3⟩
    have eb:brk t.old m w=m.wr w 44:=by unfold brk;rw[if_pos ho]
    refine⟨_,rfl,⟨⟨by omega,by omega⟩,?_,fA.trans (e2.fr.trans (f3.mono (λi hi _=>by simp at hi;simp[spB];omega)))⟩,hd⟩
    rw[hfo,eb]
    refine⟨T2.toTc.withMem (m:=m.wr w 44) f3 (λi hi=>by simp at hi;omega) hm3 (T2.ok.wr w (by decide)),(Same'.wr m w 44).even T2.even,?_,T2.on⟩
    have:=T2.cf
    unfold Sp.cf at this⊢
    show(m.wr w 44).count+(m.wr w 44).free<_
    rw[(Same'.wr m w 44).count,(Same'.wr m w 44).free];exact this
  · rw[if_neg (by simp[ho])]
    have eb:brk t.old m w=m:=by unfold brk;rw[if_neg ho]
    exact⟨⟨⟨by omega,by omega⟩,by rw[hfo,eb];exact T2,fA.trans e2.fr⟩,hd⟩
end Go.Proofs.YtdoghjgbhefphaaGreat

