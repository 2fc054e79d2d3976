/-
 What audit.Check goes over: the words beside the heap; a thing's fields; all things, into a map. Proves nothing of any one statement.
-/
import Derived.Test.YtojbbgcjiaphjaaGreatAuG
import Derived.Test.YtojbbgcjiaphjaaGreatAuA
set_option linter.unusedVariables false
set_option linter.unusedSimpArgs false
namespace Go.Proofs.YtojbbgcjiaphjaaGreat
open Go

theorem pG{H:zV}{sB:zW}{sN sC:Nat}{ws:List Int}(hs:fY H sB (wvs ws))(hn:sN=ws.length)(hb:sN<=1000000):
  aW.C sB sN sC H (λv H'=> ∃(B:zW) (c:Nat),v=.slice B ws.length c/\Own H' 40 1 B ws.length c (wvs ws)/\(∀j∈blks B,H.size<=j)/\Ext H H'):=by
 refine HC.via λR hR=>aW.link ?_
 unfold aW.pt
 subst hn
 cases sB with
 | none=>
  rw[onPtr_none]
  rw[SrcAt_none]at hs
  have:ws=[]:=by unfold wvs at hs;simpa using hs
  subst this
  exact hR _ _ ⟨none,0,rfl,iL,by simp,Ext.refl _⟩
 | some a=>
  rw[onPtr_some]
  intro b H1 hb1 hH1
  have e1:Ext H H1:=Ext.push' hH1
  have ho:Own H1 40 1 (some ⟨b,0,none⟩) 0 0 []:=⟨rfl,_,aG hb1 hH1,rfl,Nat.le_refl _,rfl,λj hj=>by omega⟩
  refine fG (ys:=wvs ws) ho (e1.rowAt hs) (by simp[wvs]) (gM _) rfl (by omega) ?_
  intro p c H2 how f hnew
  rw[Nat.zero_add]at how⊢
  refine hR _ _ ⟨p,c,rfl,by simpa using how,λi hi=>?_,e1.fr_trans f (λi hi=>by simp at hi;omega)⟩
  rcases hnew i hi with h | h
  ·simp at h;omega
  ·have:=e1.size;omega
def eI(roots syms:List Int)(es:List (Int×Int)):List Int:=roots++syms++es.flatMap λe=> [e.1,e.2]
structure kR (H:zV) (b:Blk) (x:Hp) (syms:List Int) (es:List (Int×Int)):Prop where
 sy: ∃(B:zW) (c:Nat),x.sy=.slice B syms.length c/\fY H B (wvs syms)
 en: ∃(B:zW) (c:Nat),x.en=.slice B es.length c/\ ∀i (h:i<es.length),∃a,B=some a/\aS H (a.add (i*2)) 0 [.int .u64 es[i].1,.int .u64 es[i].2]
 len:syms.length<=1000000/\es.length<=1000000
theorem kR.ext{H H':zV}{b:Blk}{x:Hp}{syms:List Int}{es:List (Int×Int)}(h:kR H b x syms es)(e:Ext H H'):kR H' b x syms es:=by
 obtain⟨B,c,h1,h2⟩:=h.sy
 obtain⟨D,d,k1,k2⟩:=h.en
 exact⟨⟨B,c,h1,h2.ext e⟩,⟨D,d,k1,λi hi=>by obtain⟨a,a1,a2⟩:=k2 i hi;exact⟨a,a1,e.rowAt a2⟩⟩,h.len⟩
theorem nk{roots syms:List Int}{es:List (Int×Int)}{k:Nat}(h:k<es.length):eI roots syms (es.take (k+1))=eI roots syms (es.take k)++[es[k].1,es[k].2]:=by
 unfold eI
 rw[List.take_succ_eq_append_getElem h,List.flatMap_append];simp
set_option maxRecDepth 100000 in
theorem pH{A:zV}{b:Blk}{x:Hp}{rB:zW}{rN rC:Nat}{roots syms:List Int}{es:List (Int×Int)}(hp:HpAt A b x)(S:kR A b x syms es)(hr:fY A rB (wvs roots))(hrn:rN=roots.length)(hrl:rN<=1000000):
  eP.C (some ⟨b.h,0,none⟩) rB rN rC A (λv A'=> ∃(B:zW) (c:Nat),v=.slice B (eI roots syms es).length c/\Own A' 40 1 B (eI roots syms es).length c (wvs (eI roots syms es))/\(∀j∈blks B,A.size<=j)/\Ext A A'):=by
 refine HC.via λR hR=>eP.link ?_
 unfold eP.pt zY
 obtain⟨S1,S2,S3⟩:=S
 obtain⟨yB,yC,y1,y2⟩:=S1
 obtain⟨eB,eC,n1,n2⟩:=S2
 refine HC.mono (pG hr hrn hrl) ?_
 rintro _ H1 ⟨B,c,rfl,o1,hB,e1⟩
 refine⟨B,_,c,rfl,?_⟩
 rw[onPtr_some]
 have hp1:=hp.ext e1
 have z1:=e1.size
 have g1:hat H1 ((Addr.mk b.h 0 none).add 1)=some x.sy:=cD hp1.h 1
 refine⟨yB,syms.length,yC,by rw[g1,y1],?_⟩
 subst hrn
 refine fG (ys:=wvs syms) o1 (y2.ext e1) (by simp[wvs]) (gM _) rfl (by omega) ?_
 intro p2 c2 H2 o2 f2 hn2
 have E2:Ext A H2:=e1.fr_trans f2 hB
 have hp2:=hp.ext E2
 have g2:hat H2 ((Addr.mk b.h 0 none).add 2)=some x.en:=cD hp2.h 2
 have hp2B: ∀j∈blks p2,A.size<=j:=λj hj=>by
  rcases hn2 j hj with h | h
  ·exact hB j h
  ·omega
 have ew:wvs roots++wvs syms=wvs (roots++syms):=by unfold wvs;rw[List.map_append]
 rw[ew]at o2
 have ol: ∀k,(eI roots syms (es.take k)).length<=4000000:=λk=>by
  have h1: ∀l:List (Int×Int),(l.flatMap λe=> [e.1,e.2]).length=2*l.length:=λl=>by
   induction l with
   | nil=>rfl
   | cons a l ih=>rw[List.flatMap_cons,List.length_append,ih];simp;omega
  unfold eI
  rw[List.length_append,List.length_append,h1,List.length_take];omega
 refine⟨eB,es.length,eC,by rw[g2,n1],λlB lN lC s H3=> ∃k:Nat,s=k/\k<=es.length/\lN=(eI roots syms (es.take k)).length/\Own H3 40 1 lB lN lC (wvs (eI roots syms (es.take k)))/\(∀j∈blks lB,A.size<=j)/\Ext A H3,λ_ _ _ s _=>((es.length:Int)-s).toNat,
  ⟨0,rfl,by omega,by rw[List.take_zero];simp[eI],by rw[List.take_zero];simpa[eI]using o2,hp2B,E2⟩,?_⟩
 rintro lB lN lC _ H3 ⟨k,rfl,hk,hlN,o3,hlB,E3⟩
 by_cases hlt:(k:Int)< (es.length:Int)
 case neg=>
  rw[if_neg hlt]
  rw[List.take_of_length_le (by omega)]at o3 hlN
  subst hlN
  exact hR _ _ ⟨lB,lC,rfl,o3,hlB,E3⟩
 rw[if_pos hlt]
 have hkl:k<es.length:=by omega
 obtain⟨a,ha,row⟩:=n2 k hkl
 refine⟨a,ha,⟨by omega,hlt⟩,es[k].1,es[k].2,by rw[show Int.toNat (k:Int)=k by omega];exact E3.rowAt row,λb4 H4 hb4 hH4=>?_⟩
 have e4:Ext H3 H4:=Ext.push' hH4
 obtain⟨c4,s4⟩:=dQ (A3:=aU H4 (Addr.mk b4 0 none) [.int .u64 es[k].1,.int .u64 es[k].2] 0) hb4 hH4 [.int .u64 es[k].1,.int .u64 es[k].2] rfl
 refine⟨c4,λH5 hH5=>?_⟩
 obtain⟨g5,e5⟩:=s4 rfl
 rw[<-hH5]at g5 e5
 have g5':H5[b4]?=some (.cells #[.int .u64 es[k].1,.int .u64 es[k].2] 83 (0,0)):=g5
 refine⟨_,by rw[aI g5'];rfl,_,cD g5' 1,λb6 H6 hb6 hH6=>?_⟩
 have e6:Ext H5 H6:=Ext.push' hH6
 have e36:=e5.trans e6
 have z36:=e36.size
 have zE3:=E3.size
 have:=ol k
 refine fG (ys:=wvs [es[k].1,es[k].2]) (o3.ext e36) (jn (aG hb6 hH6)) rfl (gM _) rfl (by omega) ?_
 intro p7 c7 H7 o7 f7 hn7
 have hw:IntKind.wrap .i64 ((k:Int)+1)=((k+1:Nat):Int):=by rw[w64 (n:=(k:Int)+1) (by omega)];omega
 rw[hw]
 have hl2:=nk (roots:=roots) (syms:=syms) hkl
 refine⟨⟨k+1,rfl,hkl,by rw[hl2,List.length_append,hlN];rfl,?_,λj hj=>?_,(E3.trans e36).fr_trans f7 hlB⟩,by show((es.length:Int)-((k+1:Nat):Int)).toNat< ((es.length:Int)-(k:Int)).toNat;omega⟩
 ·have e:wvs (eI roots syms (es.take (k+1)))=wvs (eI roots syms (es.take k))++wvs [es[k].1,es[k].2]:=by rw[hl2];unfold wvs;rw[List.map_append]
  rw[e];exact o7
 ·rcases hn7 j hj with h | h
  ·exact hlB j h
  ·omega

def dL(ws:List Int)(w:Int):Int:=
  if w % 8=5\/w % 8=6 then 1 else if(w % 8=1\/w % 8=2\/w % 8=3)/\mayW w=true/\w ∉ ws then 18 else if mayW w=true then 0 else 1
structure IsMap (A:zV) (mr:Nat) (ws:List Int):Prop where
  map: ∃(es:Array MapEntry) (cl:Nat) (ks:List (Int×Value)),A[mr]?=some (.map es cl)/\Ents (bT .u64) es.toList ks/\ ∀w,(w∈ws-> ∃n:Int,n≠0/\mget ks w=some (.int .i64 n))/\(w ∉ ws->mget ks w=none)
theorem IsMap.keep{S:List Nat}{A A':zV}{mr:Nat}{ws:List Int}(h:IsMap A mr ws)(f:Fr S A A')(hm:mr ∉ S):IsMap A' mr ws:=by
  obtain⟨es,cl,ks,h1,h2,h3⟩:=h.map
  exact⟨es,cl,ks,f.get hm h1,h2,h3⟩
theorem IsMap.ext{A A':zV}{mr:Nat}{ws:List Int}(h:IsMap A mr ws)(e:Ext A A'):IsMap A' mr ws:=h.keep (S:=[]) e.fr (by simp)
theorem IsMap.lt{A:zV}{mr:Nat}{ws:List Int}(h:IsMap A mr ws):mr<A.size:=by
  obtain⟨es,cl,ks,h1,h2,h3⟩:=h.map
  exact aO h1
theorem IsMap.fault{A:zV}{mr:Nat}{ws:List Int}{w:Int}(h:IsMap A mr ws)(hw:aP w):cY.C w (some mr) A (λv A'=>v=.int .i64 (dL ws w)/\Ext A A'):=by
  obtain⟨es,cl,ks,h1,h2,h3⟩:=h.map
  refine HC.mono (qk h1 h2 (λu=>?_) hw) ?_
  · by_cases hu:u∈ws
    · obtain⟨n,_,e⟩:=(h3 u).1 hu
      exact⟨n,by rw[e];rfl⟩
    · exact⟨0,by rw[(h3 u).2 hu];rfl⟩
  · rintro _ A' ⟨rfl,e⟩
    refine⟨?_,e⟩
    have q:isN ks w=0 ↔ w ∉ ws:=by
      unfold isN
      by_cases hu:w∈ws
      · obtain⟨n,hn,e⟩:=(h3 w).1 hu
        rw[e]
        exact⟨λh=>absurd h hn,λh=>absurd hu h⟩
      · rw[(h3 w).2 hu]
        exact⟨λ_=>hu,λ_=>rfl⟩
    unfold jK dL
    simp only[q]
set_option maxRecDepth 100000 in
theorem qo{D:zV}{b1 b2 b4 mr lp:Nat}{a v x1 x2:Int}{ws:List Int}{rc:LoopState->Option Code->Obj}{K:zv}
    (g1:D[b1]?=some (.cells #[.int .i64 x1] 3 (0,0))) (g2:D[b2]?=some (.cells #[.int .i64 x2] 45 (0,0))) (g4:D[b4]?=some (.cells #[.map (some mr)] 100 (0,0))) (M:IsMap D mr ws) (hv:aP v) (ql:D[lp]?=some (rc .ready none)) (hl:lp≠b1/\lp≠b2/\lp≠b4/\lp≠mr/\b1≠b2)
    (hK:dL ws v=0-> ∀A',A'[lp]?=some (rc .ready none)->Fr [lp] D A'->K (.bool true) A')
    (hB:dL ws v≠0-> ∀A',A'[lp]?=some (rc .done (some .ret))->A'[b1]?=some (.cells #[.int .i64 a] 3 (0,0))->A'[b2]?=some (.cells #[.int .i64 (dL ws v)] 45 (0,0))->Fr [b1,b2,lp] D A'->K (.bool false) A'):
       (D[lp]?=some (rc .ready none)/\ ∀H21:zV,H21=aF D lp (rc .busy none)->
        ∃x_10:Option Nat,hat H21 (Addr.mk b4 0 none)=some (.map x_10)/\
        cY.C v x_10 H21 (λv_5 H22=> ∃x_11:Int,v_5=.int .i64 x_11/\
         if x_11=0 then(
          H22[lp]?=some (rc .busy none)/\
          K (.bool true) (aF H22 lp (rc .ready none)))
         else
         (aK H22 (Addr.mk b1 0 none) 0 1)/\ ∀H23:zV,H23=aU H22 (Addr.mk b1 0 none) [.int .i64 a] 0->
         (aK H23 (Addr.mk b2 0 none) 0 1)/\ ∀H24:zV,H24=aU H23 (Addr.mk b2 0 none) [.int .i64 x_11] 0->
         H24[lp]?=some (rc .busy none)/\
         K (.bool false) (aF H24 lp (rc .done (some .ret))))):=by
  obtain⟨l1,l2,l4,l5,l12⟩:=hl
  refine⟨ql,λH21 hH21=>?_⟩
  have f5:Fr [lp] D H21:=by rw[hH21];exact Fr.set
  have ql21:H21[lp]?=some (rc .busy none):=by rw[hH21];exact aX (aO ql)
  have ns: ∀j,lp≠j->j ∉ [lp]:=λj h=>by simp;exact λe=>h e.symm
  clear hH21
  refine⟨some mr,by rw[aI (f5.get (ns _ l4) g4)];rfl,HC.mono ((M.keep f5 (ns _ l5)).fault hv) ?_⟩
  rintro _ H22 ⟨rfl,e22⟩
  refine⟨_,rfl,?_⟩
  by_cases h0:dL ws v=0
  · rw[if_pos h0]
    have q:=e22.get ql21
    have f9:Fr [lp] H22 (aF H22 lp (rc .ready none)):=Fr.set
    exact⟨q,hK h0 _ (aX (aO q)) ((f5.trans e22.fr).trans f9)⟩
  rw[if_neg h0]
  obtain⟨c1,s1⟩:=gX (n:=1) (vs:=[.int .i64 a]) (e22.get (f5.get (ns _ l1) g1)) rfl rfl
  refine⟨c1,λH23 hH23=>?_⟩
  obtain⟨k1,f23⟩:=s1 H23 hH23
  obtain⟨c2,s2⟩:=gX (n:=1) (vs:=[.int .i64 (dL ws v)]) (f23.get (by simp;omega) (e22.get (f5.get (ns _ l2) g2))) rfl rfl
  refine⟨c2,λH24 hH24=>?_⟩
  obtain⟨k2,f24⟩:=s2 H24 hH24
  have q:=f24.get (by simp;omega) (f23.get (by simp;omega) (e22.get ql21))
  have f9:Fr [lp] H24 (aF H24 lp (rc .done (some .ret))):=Fr.set
  refine⟨q,hB h0 _ (aX (aO q)) (f9.get (by simp;omega) (f24.get (by simp;omega) k1)) (f9.get (by simp;omega) k2) ?_⟩
  exact(((f5.mono (λi hi _=>by simp at hi;simp[hi])).trans e22.fr).trans (f23.mono (λi hi _=>by simp at hi;simp[hi]))).trans ((f24.mono (λi hi _=>by simp at hi;simp[hi])).trans (f9.mono (λi hi _=>by simp at hi;simp[hi])))
set_option maxRecDepth 100000 in
set_option maxHeartbeats 1000000 in
theorem oV{A:zV}{b:Blk}{x:Hp}{b1 b2 b4 mr:Nat}{w x1 x2:Int}{ws:List Int}{K1 K2:zV->zV->Prop}(hp:HpAt A b x)(ok:SpOK x.sp)
    (g1:A[b1]?=some (.cells #[.int .i64 x1] 3 (0,0))) (g2:A[b2]?=some (.cells #[.int .i64 x2] 45 (0,0))) (g4:A[b4]?=some (.cells #[.map (some mr)] 100 (0,0))) (M:IsMap A mr ws) (hw:aP w) (h12:b1≠b2)
    (hK1:(∀p∈bQ x.sp.mem w,dL ws p.2=0)-> ∀H18 A':zV,H18.size=A.size+2->A'[H18.size]?=some (.deferred (some []))->Ext A A'->K1 H18 A')
    (hK2: ∀pre a v post,bQ x.sp.mem w=pre++(a,v)::post->(∀p∈pre,dL ws p.2=0)->dL ws v≠0-> ∀H18 A':zV,H18.size=A.size+2->A'[H18.size]?=some (.deferred (some []))->A'[b1]?=some (.cells #[.int .i64 a] 3 (0,0))->A'[b2]?=some (.cells #[.int .i64 (dL ws v)] 45 (0,0))->Fr [b1,b2] A A'->K2 H18 A'):
      bA.C (some ⟨b.h,0,none⟩) w A (λv_4 H18=>v_4=v_4/\
       ∀(rc_2:LoopState->Option Code->Obj) (lp_2:Nat) (H19:zV),lp_2=H18.size+1->H19=(H18.push (.deferred (some []))).push (rc_2 .ready none)->
       ∀vY_2:Value,(∀(x_8:Int) (x_9:Int) (H20:zV) (vRy_2:zv),H20[lp_2]?=some (rc_2 .ready none)->
       (H20[lp_2]?=some (rc_2 .ready none)/\ ∀H21:zV,H21=aF H20 lp_2 (rc_2 .busy none)->
        ∃x_10:Option Nat,hat H21 (Addr.mk b4 0 none)=some (.map x_10)/\
        cY.C x_9 x_10 H21 (λv_5 H22=> ∃x_11:Int,v_5=.int .i64 x_11/\
         if x_11=0 then(
          H22[lp_2]?=some (rc_2 .busy none)/\
          vRy_2 (.bool true) (aF H22 lp_2 (rc_2 .ready none)))
         else
         (aK H22 (Addr.mk b1 0 none) 0 1)/\ ∀H23:zV,H23=aU H22 (Addr.mk b1 0 none) [.int .i64 x_8] 0->
         (aK H23 (Addr.mk b2 0 none) 0 1)/\ ∀H24:zV,H24=aU H23 (Addr.mk b2 0 none) [.int .i64 x_11] 0->
         H24[lp_2]?=some (rc_2 .busy none)/\
         vRy_2 (.bool false) (aF H24 lp_2 (rc_2 .done (some .ret)))))->
       FC Tryz.prog vY_2 #[.int .i64 x_8,.int .u64 x_9] H20 vRy_2)->
       FE Tryz.prog v_4 #[vY_2] H19 (λ_ H25=>
        (H25[lp_2]?=some (rc_2 .ready none)/\ ∀H26:zV,H26=aF H25 lp_2 (rc_2 .exhausted none)->K1 H18 H26)\/
        (H25[lp_2]?=some (rc_2 .done (some .ret))/\ ∀H26:zV,H26=aF H25 lp_2 (rc_2 .exhausted (some .ret))->K2 H18 H26))):=by
  refine bA.link ?_
  unfold bA.pt
  intro c0 H1 hc0 hH1 c1 H2 hc1 hH2
  have e1:Ext A H1:=Ext.push' hH1
  have e2:Ext H1 H2:=Ext.push' hH2
  have z1:H1.size=A.size+1:=by rw[hH1];simp
  have z2:H2.size=H1.size+1:=by rw[hH2];simp
  refine⟨rfl,λrc lp H19 hlp hH19 vY hY=>?_⟩
  have e3:Ext H2 H19:=(Ext.push' rfl).trans (Ext.push' hH19)
  have z3:H19.size=H2.size+2:=by rw[hH19];simp
  have gdef:H19[H2.size]?=some (.deferred (some [])):=by
    have:(H2.push (.deferred (some [])))[H2.size]?=some (.deferred (some [])):=aG rfl rfl
    exact(Ext.push' hH19).get this
  have glp:H19[lp]?=some (rc .ready none):=aG (by simp;omega) hH19
  have e:=(e1.trans e2).trans e3
  have l1:=aO g1
  have l2:=aO g2
  have l4:=aO g4
  have lm:=M.lt
  have lb:=hp.lt
  refine FE.of2 (enters_of Tryz.func97 (by kernel_rfl) rfl) rfl (kQ (w:=w) (S:=[lp])
    (J:=λl U D=>D[lp]?=some (rc .ready none)/\U=[]/\ ∀p∈l,dL ws p.2=0)
    (hp.ext e) ok ((e2.trans e3).get (aG hc0 hH1)) (e3.get (aG hc1 hH2)) hw (λi hi=>⟨λhq=>by have:=lb i hq;simp at hi;omega,by simp at hi;omega,by simp at hi;omega⟩)
    (λl U D D' ⟨h1,h2,h3⟩ ee=>⟨ee.get h1,h2,h3⟩) (λl U D h j hj=>by rw[h.2.1]at hj;cases hj)
    (λpre a v post U D hall f0 hJ=>?_) ⟨glp,rfl,by simp⟩ (λU D hJ f0=>?_))
  · obtain⟨ql,rfl,hpre⟩:=hJ
    have hvw:aP v:=by
      have h:(a,v)∈bQ x.sp.mem w:=by rw[hall];simp
      unfold bQ at h
      split at h
      · cases h
      · obtain⟨i,_,hq⟩:=List.mem_map.1 h
        cases hq
        exact Mem.read_word ok.mem _
    have z0:=f0.size
    have nl: ∀j,j<A.size->j ∉ [lp]:=λj hj=>by simp;omega
    refine(show∀K:zv,(∀A',dL ws v=0->A'[lp]?=some (rc .ready none)->Fr [lp] D A'->K (.bool true) A')->(∀A',dL ws v≠0->A'[lp]?=some (rc .done (some .ret))->A'[b1]?=some (.cells #[.int .i64 a] 3 (0,0))->A'[b2]?=some (.cells #[.int .i64 (dL ws v)] 45 (0,0))->Fr [b1,b2,lp] D A'->K (.bool false) A')->FC Tryz.prog vY #[.int .i64 a,.int .u64 v] D K from λK hk1 hk2=>
      hY a v D K ql (qo (K:=K) (f0.get (nl _ l1) (e.get g1)) (f0.get (nl _ l2) (e.get g2)) (f0.get (nl _ l4) (e.get g4)) ((M.ext e).keep f0 (nl _ lm)) hvw ql ⟨by omega,by omega,by omega,by omega,h12⟩ (λh A'=>hk1 A' h) (λh A'=>hk2 A' h))) _ (λA' h0 q f=> .inl ⟨rfl,[],⟨q,rfl,λp hp=>?_⟩,by simpa using f,by simp⟩) (λA' h0 q k1 k2 f=> .inr ⟨rfl,.inr ⟨q,λH26 hH26=>?_⟩⟩)
    · rcases List.mem_append.1 hp with h | h
      · exact hpre p h
      · simp at h;rw[h];exact h0
    · have f26:Fr [lp] A' H26:=by rw[hH26];exact Fr.set
      have nlp: ∀j,j≠lp->j ∉ [lp]:=λj hj=>by simp;exact hj
      refine hK2 pre a v post hall hpre h0 H2 H26 (by omega) (f26.get (nlp _ (by omega)) (f.get (by simp;omega) (f0.get (nlp _ (by omega)) gdef))) (f26.get (nlp _ (by omega)) k1) (f26.get (nlp _ (by omega)) k2) ?_
      refine e.fr.trans' ((f0.mono (λi hi _=>by simp at hi;simp[hi]) (S':=[b1,b2,lp])).trans (f.trans (f26.mono (λi hi _=>by simp at hi;simp[hi])))) (S:=[]) (λi hi _=>by simp at hi) (λi hi hl=>?_)
      simp at hi
      simp;omega
  · obtain⟨ql,rfl,hall⟩:=hJ
    refine .inl ⟨ql,λH26 hH26=>?_⟩
    have f26:Fr [lp] D H26:=by rw[hH26];exact Fr.set
    have z0:=f0.size
    have nlp: ∀j,j≠lp->j ∉ [lp]:=λj hj=>by simp;exact hj
    exact hK1 hall H2 H26 (by omega) (f26.get (nlp _ (by omega)) (f0.get (nlp _ (by omega)) gdef)) ((e.fr_trans f0 (λi hi=>by simp at hi;omega)).fr_trans f26 (λi hi=>by simp at hi;omega))
