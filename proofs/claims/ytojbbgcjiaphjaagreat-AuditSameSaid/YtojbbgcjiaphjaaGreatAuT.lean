/-
  Check, whole (audit). Proves nothing of any one statement.
-/
import Derived.Test.YtojbbgcjiaphjaaGreatAuQ
import Derived.Test.YtojbbgcjiaphjaaGreatAuO
set_option linter.unusedVariables false
set_option linter.unusedSimpArgs false
namespace Go.Proofs.YtojbbgcjiaphjaaGreat
open Go

set_option maxRecDepth 100000 in
set_option maxHeartbeats 1000000 in
theorem oX{A:zV}{b:Blk}{x:Hp}{b1 b2 b4 mr:Nat}{K1 K2:zV->zV->Prop}(hp:HpAt A b x)(ok:SpOK x.sp)
    (g4:A[b4]?=some (.cells #[.map (some mr)] 100 (0,0))) (M:IsMap A mr []) (hmb:mr ∉ b.all/\mr≠b4) (hsz: ∀l,eW x.sp.mem [] l-> ∀p∈bF x.sp.mem l,p.2≠0)
    (hK1: ∀l,eW x.sp.mem [] l-> ∀H6 A':zV,H6.size=A.size+1->A'[H6.size]?=some (.deferred (some []))->IsMap A' mr ((bF x.sp.mem l).map Prod.fst)->Fr [mr] A A'->K1 H6 A'):
 cW.C (some ⟨b.h,0,none⟩) A (λv H6=>v=v/\
  ∀(rc:LoopState->Option Code->Obj) (lp:Nat) (H7:zV),lp=H6.size+1->H7=(H6.push (.deferred (some []))).push (rc .ready none)->
  ∀vY:Value,(∀(x_2:Int) (x_3:Int) (H8:zV) (vRy:zv),H8[lp]?=some (rc .ready none)->
  (H8[lp]?=some (rc .ready none)/\ ∀H9:zV,H9=aF H8 lp (rc .busy none)->
   if x_3=0 then(
    cV.C x_2 H9 (λv_2 H10=> ∃x_4:Int,v_2=.int .i64 x_4/\
     (aK H10 (Addr.mk b1 0 none) 0 1)/\ ∀H11:zV,H11=aU H10 (Addr.mk b1 0 none) [.int .i64 x_4] 0->
     (aK H11 (Addr.mk b2 0 none) 0 1)/\ ∀H12:zV,H12=aU H11 (Addr.mk b2 0 none) [.int .i64 9] 0->
     H12[lp]?=some (rc .busy none)/\
     vRy (.bool false) (aF H12 lp (rc .done (some .ret)))))
   else
   ∃x_5:Option Nat,hat H9 (Addr.mk b4 0 none)=some (.map x_5)/\
   ∃mr:Nat,x_5=some mr/\
   ∃(es:Array MapEntry) (cl:Nat) (ks:List (Int×Value)),H9[mr]?=some (.map es cl)/\Ents (bT .u64) es.toList ks/\
   ∀(es_2:Array MapEntry) (cl_2:Nat) (H13:zV),H13=aF H9 mr (.map es_2 cl_2)->Ents (bT .u64) es_2.toList (mput ks x_2 (.int .i64 x_3))->
   H13[lp]?=some (rc .busy none)/\
   vRy (.bool true) (aF H13 lp (rc .ready none)))->
  FC Tryz.prog vY #[.int .u64 x_2,.int .i64 x_3] H8 vRy)->
  FE Tryz.prog v #[vY] H7 (λ_ H14=>
   (H14[lp]?=some (rc .ready none)/\ ∀H15:zV,H15=aF H14 lp (rc .exhausted none)->K1 H6 H15)\/
   (H14[lp]?=some (rc .done (some .ret))/\ ∀H15:zV,H15=aF H14 lp (rc .exhausted (some .ret))->K2 H6 H15))):=by
  refine cW.link ?_
  unfold cW.pt
  intro cap H2 hcap hH2
  have e2:Ext A H2:=Ext.push' hH2
  have z2:H2.size=A.size+1:=by rw[hH2];simp
  refine⟨rfl,λrc lp H7 hlp hH7 vY hY=>?_⟩
  have e3:Ext H2 H7:=(Ext.push' rfl).trans (Ext.push' hH7)
  have z3:H7.size=H2.size+2:=by rw[hH7];simp
  have gdef:H7[H2.size]?=some (.deferred (some [])):=by
    have:(H2.push (.deferred (some [])))[H2.size]?=some (.deferred (some [])):=aG rfl rfl
    exact(Ext.push' hH7).get this
  have glp:H7[lp]?=some (rc .ready none):=aG (by simp;omega) hH7
  have e:=e2.trans e3
  have l4:=aO g4
  have lm:=M.lt
  have lb:=hp.lt
  refine FE.of2 (enters_of Tryz.func101 (by kernel_rfl) rfl) rfl (ml (S:=[lp,mr])
    (J:=λl T D=>D[lp]?=some (rc .ready none)/\T=[]/\IsMap D mr (l.map Prod.fst))
    (hp.ext e) ok (e3.get (aG hcap hH2)) (λi hi=>by
      simp at hi
      rcases hi with rfl | rfl
      · exact⟨by omega,λh=>by have:=lb _ h;omega,by omega⟩
      · exact⟨by omega,hmb.1,by omega⟩) (λl T D D' ⟨h1,h2,h3⟩ ee=>⟨ee.get h1,h2,h3.ext ee⟩)
    (λl T D h j hj=>by rw[h.2.1]at hj;cases hj) (λl pre w n post T D hl hall f0 hJ=>?_) ⟨glp,rfl,M.ext e⟩ (λl T D hl hJ f0=>?_))
  · obtain⟨ql,rfl,hM⟩:=hJ
    have hn:n≠0:=hsz l hl (w,n) (by rw[hall];simp)
    have z0:=f0.size
    refine hY w n D _ ql ⟨ql,λH9 hH9=>?_⟩
    have f5:Fr [lp] D H9:=by rw[hH9];exact Fr.set
    have ql9:H9[lp]?=some (rc .busy none):=by rw[hH9];exact aX (aO ql)
    rw[if_neg hn]
    have g9:=f5.get (by simp;omega) (f0.get (by simp;omega) (e.get g4))
    obtain⟨es,cl,ks,m1,m2,m3⟩:=(hM.keep f5 (by simp;omega)).map
    refine⟨some mr,by rw[aI g9];rfl,mr,rfl,es,cl,ks,m1,m2,λes3 cl3 H13 hH13 hes3=>?_⟩
    have f13:Fr [mr] H9 H13:=by rw[hH13];exact Fr.set
    have g13:H13[mr]?=some (.map es3 cl3):=by rw[hH13];exact aX (aO m1)
    have q13:=f13.get (by simp;omega) ql9
    have f9:Fr [lp] H13 (aF H13 lp (rc .ready none)):=Fr.set
    refine⟨q13,.inl ⟨rfl,[],⟨aX (aO q13),rfl,⟨es3,cl3,_,f9.get (by simp;omega) g13,hes3,λu=>?_⟩⟩,?_,by simp⟩⟩
    · rw[jm,List.map_append]
      by_cases hu:u=w
      · rw[if_pos hu]
        exact⟨λ_=>⟨n,hn,rfl⟩,λh=>absurd (by simp[hu]) h⟩
      · rw[if_neg hu]
        have q:u∈pre.map Prod.fst++[(w,n)].map Prod.fst ↔ u∈pre.map Prod.fst:=by simp[hu]
        rw[q];exact m3 u
    · exact((f5.mono (λi hi _=>by simp at hi;simp[hi])).trans (f13.mono (λi hi _=>by simp at hi;simp[hi]))).trans (f9.mono (λi hi _=>by simp at hi;simp[hi]))
  · obtain⟨ql,rfl,hM⟩:=hJ
    refine .inl ⟨ql,λH15 hH15=>?_⟩
    have f15:Fr [lp] D H15:=by rw[hH15];exact Fr.set
    have z0:=f0.size
    refine hK1 l hl H2 H15 (by omega) (f15.get (by simp;omega) (f0.get (by simp;omega) gdef)) (hM.keep f15 (by simp;omega)) ?_
    refine e.fr.trans' ((f0.mono (λi hi _=>hi)).trans (f15.mono (λi hi _=>by simp at hi;simp[hi]))) (S:=[]) (λi hi _=>by simp at hi) (λi hi hl=>?_)
    simp at hi
    simp;omega

theorem mJ{α:Type}{q:α->Bool}{p:α}{post:List α}(hp:q p=true): ∀pre:List α,(∀y∈pre,¬q y=true)->(pre++p::post).find? q=some p
  | [],_=>by rw[List.nil_append,List.find?_cons_of_pos hp]
  | y::pre,h=>by rw[List.cons_append,List.find?_cons_of_neg (h y (by simp))];exact mJ hp pre (λz hz=>h z (by simp[hz]))
def ckF(m:Mem)(ws1 ws2:List Int):Option (Int×Int):=(ws2.flatMap (bQ m)).find? λp=>decide (dL ws1 p.2≠0)
def ckV(m:Mem)(ws1 ws2 ot:List Int):Int×Int:=
  match ckF m ws1 ws2 with
  | some p=>(p.1,dL ws1 p.2)
  | none=>match ot.find? λw=>decide (dL ws1 w≠0)with
    | some w=>(-1,dL ws1 w)
    | none=>(0,0)
theorem oY{m:Mem}(ok:bO m){l:List Nat}(hl: ∀k∈l,k<1024): ∀w∈wsOf (bF m l),aP w:=by
  intro w hw
  unfold wsOf at hw
  obtain⟨p,hp,rfl⟩:=List.mem_map.1 hw
  have hp:=(List.mem_filter.1 hp).1
  unfold bF at hp
  obtain⟨k,hk,hq⟩:=List.mem_flatMap.1 hp
  have hk:=hl k hk
  have key: ∀(f:Nat) (t:Int),0<=t->p∈jp m (k:Int) t f->aP p.1:=by
    intro f
    induction f with
    | zero=>intro t ht h;cases h
    | succ f ih=>
      intro t ht h
      unfold jp at h
      by_cases hn:t< (m.seg (k:Int).toNat).n
      · rw[if_pos hn]at h
        have h64:=(ok.seg (k:Int).toNat).n
        have hkd:=(ok.seg (k:Int).toNat).kind
        rcases List.mem_cons.1 h with h | h
        · rw[h]
          have:tagA (m.seg (k:Int).toNat).kind=1\/tagA (m.seg (k:Int).toNat).kind=2\/tagA (m.seg (k:Int).toNat).kind=3:=by unfold tagA;split<;>(try split)<;>omega
          show aP (((k:Int)*64+t)*8+tagA (m.seg (k:Int).toNat).kind)
          generalize tagA (m.seg (k:Int).toNat).kind=tg at*
          constructor<;>omega
        · have hs:=hP m (((k:Int)*64+t)*8+tagA (m.seg (k:Int).toNat).kind)
          by_cases h0:m.sizeOf (((k:Int)*64+t)*8+tagA (m.seg (k:Int).toNat).kind)=0
          · rw[if_pos h0]at h;cases h
          · rw[if_neg h0]at h
            exact ih _ (by omega) h
      · rw[if_neg hn]at h;cases h
  exact key 64 0 (by omega) hq

theorem nU{A:zV}{b1 b2:Nat}{x1 x2:Int}{ms:List Nat}{R:zv}(g1:A[b1]?=some (.cells #[.int .i64 x1] 3 (0,0)))(g2:A[b2]?=some (.cells #[.int .i64 x2] 45 (0,0)))
  (hnd:ms.Nodup) (hD: ∀D∈ms,A[D]?=some (.deferred (some []))/\D≠b1/\D≠b2) (hR: ∀A',Fr ms A A'->R (.tuple #[.int .i64 x1,.int .i64 x2]) A'):
  Shut ms A (λH27=>
     ∃r:Int,hat H27 (Addr.mk b1 0 none)=some (.int .i64 r)/\
     ∃r_2:Int,hat H27 (Addr.mk b2 0 none)=some (.int .i64 r_2)/\
     R (.tuple #[.int .i64 r,.int .i64 r_2]) H27):=
 kI ms A hnd (λD h=>(hD D h).1) (λA2 f2=>⟨x1,by rw[aI (f2.get (λh=>(hD _ h).2.1 rfl) g1)];rfl,x2,by rw[aI (f2.get (λh=>(hD _ h).2.2 rfl) g2)];rfl,hR A2 f2⟩)
set_option maxRecDepth 100000 in
set_option maxHeartbeats 2000000 in
theorem oA{A:zV}{b:Blk}{x:Hp}{rB:zW}{rN rC:Nat}{roots syms:List Int}{es:List (Int×Int)}(hp:HpAt A b x)(ok:SpOK x.sp)(S:kR A b x syms es)(hr:fY A rB (wvs roots))(hrn:rN=roots.length)(hrl:rN<=1000000)
  (hww: ∀w∈eI roots syms es,aP w) (hsz: ∀l,eW x.sp.mem [] l-> ∀p∈bF x.sp.mem l,p.2≠0) (hmk: ∀k:Nat,x.sp.mem.has k-> ∀c:Nat,c<4->(x.sp.mem.seg k).cards c<=x.sp.mem.mark1 k c):
  eX.C (some ⟨b.h,0,none⟩) rB rN rC A (λv A'=> ∃l l':List Nat,eW x.sp.mem [] l/\eW x.sp.mem [] l'/\v=.tuple #[.int .i64 (ckV x.sp.mem ((bF x.sp.mem l).map Prod.fst) (wsOf (bF x.sp.mem l')) (eI roots syms es)).1,.int .i64 (ckV x.sp.mem ((bF x.sp.mem l).map Prod.fst) (wsOf (bF x.sp.mem l')) (eI roots syms es)).2]/\Ext A A'):=by
 refine HC.via λR hR=>eX.link ?_
 unfold eX.pt zY
 intro b1 H1 hb1 hH1 b2 H2 hb2 hH2 mr H3 hmr hH3 b4 H4 hb4 hH4
 have hb:=hp.lt
 have e1:Ext A H1:=Ext.push' hH1
 have e2:Ext H1 H2:=Ext.push' hH2
 have e3:Ext H2 H3:=Ext.push' hH3
 have z1:H1.size=A.size+1:=by rw[hH1];simp
 have z2:H2.size=H1.size+1:=by rw[hH2];simp
 have z3:H3.size=H2.size+1:=by rw[hH3];simp
 have z4:H4.size=H3.size+1:=by rw[hH4];simp
 obtain⟨c4,s4⟩:=dQ (A3:=aU H4 (Addr.mk b4 0 none) [.map (some mr)] 0) hb4 hH4 [.map (some mr)] rfl
 refine⟨c4,λH5 hH5=>?_⟩
 obtain⟨g4,e5⟩:=s4 rfl
 rw[<-hH5]at g4 e5
 have g4':H5[b4]?=some (.cells #[.map (some mr)] 100 (0,0)):=g4
 have z5:H5.size=H4.size:=by rw[hH5,bV _ _ _ _ _ (aG hb4 hH4)];simp
 have e25:=e3.trans e5
 have E5:=(e1.trans e2).trans e25
 have g1:=(e2.trans e25).get (aG hb1 hH1)
 have g2:=e25.get (aG hb2 hH2)
 have gm:=e5.get (aG hmr hH3)
 have M0:IsMap H5 mr []:=⟨#[],0,[],gm,rfl,λw=>⟨λh=>(by cases h),λ_=>rfl⟩⟩
 refine oX (hp.ext E5) ok g4' M0 ⟨λh=>by have:=hb _ h;omega,by omega⟩ hsz ?_
 intro l hl H6 H15 h6 gd15 M15 f15
 have z15:=f15.size
 have E15:Ext A H15:=E5.fr_trans f15 (λi hi=>by simp at hi;omega)
 have g1_15:=f15.get (by simp;omega) g1
 have g2_15:=f15.get (by simp;omega) g2
 have g4_15:=f15.get (by simp;omega) g4'
 refine HC.mono (nj (hp.ext E15) ok (λj hj=>by have:=hb j hj;omega)) ?_
 rintro _ H16 ⟨B,c,l',hl',rfl,hown,hBf,e16⟩
 have hword:=oY ok.mem (l:=l') (λk hk=>by have:=(hl'.has hk).2.1;have:=ok.mem.lim;omega)
 have hw2l:(wsOf (bF x.sp.mem l')).length<=65536:=by
  have h1:=ng (bF x.sp.mem l')
  have h2:=j2 x.sp.mem l'
  have h3:=hl'.len
  have h4:=ok.mem.lim
  omega
 generalize hws1:(bF x.sp.mem l).map Prod.fst=ws1 at*
 generalize hws2:wsOf (bF x.sp.mem l')=ws2 at*
 have hres: ∀{A':zV} {r1 r2:Int},Ext A A'->r1=(ckV x.sp.mem ws1 ws2 (eI roots syms es)).1->r2=(ckV x.sp.mem ws1 ws2 (eI roots syms es)).2->R (.tuple #[.int .i64 r1,.int .i64 r2]) A':=λe q1 q2=>hR _ _ ⟨l,l',hl,hl',by rw[hws1,hws2,q1,q2],e⟩
 have z16:=e16.size
 have hB2: ∀D:Nat,D>=H5.size->D≠b1/\D≠b2:=λD h=>by omega
 refine⟨B,_,c,rfl,λs ms A1=> ∃k:Nat,s=k/\k<=ws2.length/\(∀w∈ws2.take k,∀p∈bQ x.sp.mem w,dL ws1 p.2=0)/\ms.Nodup/\(∀D∈ms,A1[D]?=some (.deferred (some []))/\H5.size<=D)/\Ext A A1/\H5.size<=A1.size/\
   A1[b1]?=some (.cells #[.int .i64 0] 3 (0,0))/\A1[b2]?=some (.cells #[.int .i64 0] 45 (0,0))/\A1[b4]?=some (.cells #[.map (some mr)] 100 (0,0))/\IsMap A1 mr ws1/\Own A1 40 1 B ws2.length c (wvs ws2),
  λs _ _=>((ws2.length:Int)-s).toNat,
  ⟨0,rfl,by omega,by simp,by simp,λD hD=>by simp at hD;rw[hD];exact⟨e16.get gd15,by omega⟩,E15.trans e16,by omega,e16.get g1_15,e16.get g2_15,e16.get g4_15,M15.ext e16,hown⟩,?_⟩
 rintro _ ms A1 ⟨k,rfl,hk,hno,hnd,hD,E1,zA1,k1,k2,k4,kM,kown⟩
 have hD': ∀D∈ms,A1[D]?=some (.deferred (some []))/\D≠b1/\D≠b2:=λD h=>⟨(hD D h).1,hB2 D (hD D h).2⟩
 by_cases hlt:(k:Int)< (ws2.length:Int)
 ·rw[if_pos hlt]
  have hkl:k<ws2.length:=by omega
  obtain⟨pa,p1,p2⟩:=jZ kown.src hkl
  refine⟨pa,p1,⟨by omega,hlt⟩,ws2[k],by rw[show Int.toNat (k:Int)=k by omega];exact p2,?_⟩
  have hwr:IntKind.wrap .i64 ((k:Int)+1)=((k+1:Nat):Int):=by rw[w64 (n:=(k:Int)+1) (by omega)];omega
  rw[hwr]
  refine oV (hp.ext E1) ok k1 k2 k4 kM (hword _ (List.getElem_mem hkl)) (by omega) ?_ ?_
  ·intro hf H18 A' h18 gd eA'
   have zA':=eA'.size
   refine⟨⟨k+1,rfl,hkl,λw hw=>?_,?_,λD h=>?_,E1.trans eA',by omega,eA'.get k1,eA'.get k2,eA'.get k4,kM.ext eA',kown.ext eA'⟩,by show((ws2.length:Int)-((k+1:Nat):Int)).toNat< ((ws2.length:Int)-(k:Int)).toNat;omega⟩
   ·rw[List.take_succ_eq_append_getElem hkl]at hw
    rcases List.mem_append.1 hw with h | h
    ·exact hno w h
    ·simp at h;rw[h];exact hf
   ·rw[List.nodup_cons]
    exact⟨λh=>by have:=aO (hD _ h).1;omega,hnd⟩
   ·rcases List.mem_cons.1 h with h | h
    ·rw[h];exact⟨gd,by omega⟩
    ·exact⟨eA'.get (hD D h).1,(hD D h).2⟩
  ·intro pre a v post hall hpre hv0 H18 A' h18 gd q1 q2 fA'
   have zA':=fA'.size
   have hc:ckV x.sp.mem ws1 ws2 (eI roots syms es)=(a,dL ws1 v):=by
    unfold ckV
    have:ckF x.sp.mem ws1 ws2=some (a,v):=by
     unfold ckF
     have e:ws2.flatMap (bQ x.sp.mem)=((ws2.take k).flatMap (bQ x.sp.mem)++pre)++(a,v)::(post++(ws2.drop (k+1)).flatMap (bQ x.sp.mem)):=by
      have e1:ws2=ws2.take k++ws2[k]::ws2.drop (k+1):=by rw[<-List.drop_eq_getElem_cons hkl,List.take_append_drop]
      conv=>lhs;rw[e1]
      rw[List.flatMap_append,List.flatMap_cons,hall];simp
     rw[e]
     refine mJ (q:=λp:Int×Int=>decide (dL ws1 p.2≠0)) (p:=(a,v)) (zX hv0) _ (λy hy=>?_)
     rw[decide_eq_true_eq,Classical.not_not]
     rcases List.mem_append.1 hy with h | h
     ·obtain⟨w,h1,h2⟩:=List.mem_flatMap.1 h
      exact hno w h1 y h2
     ·exact hpre y h
    rw[this]
   refine nU q1 q2 ?_ (λD h=>?_) (λA2 f2=>hres ((E1.fr_trans fA' (λi hi=>by simp at hi;omega)).fr_trans f2 (λi hi=>?_)) (by rw[hc]) (by rw[hc]))
   ·rw[List.nodup_cons]
    exact⟨λh=>by have:=aO (hD _ h).1;omega,hnd⟩
   ·rcases List.mem_cons.1 h with h | h
    ·rw[h];exact⟨gd,hB2 _ (by omega)⟩
    ·exact⟨fA'.get (by have:=hB2 _ (hD D h).2;simp;omega) (hD D h).1,hB2 _ (hD D h).2⟩
   ·rcases List.mem_cons.1 hi with h | h
    ·omega
    ·have:=(hD i h).2;omega
 rw[if_neg hlt]
 rw[List.take_of_length_le (by omega)]at hno
 have hckF:ckF x.sp.mem ws1 ws2=none:=by
  unfold ckF
  rw[List.find?_eq_none]
  intro y hy
  rw[decide_eq_true_eq,Classical.not_not]
  obtain⟨w,h1,h2⟩:=List.mem_flatMap.1 hy
  exact hno w h1 y h2
 refine HC.mono (pH (hp.ext E1) (S.ext E1) (hr.ext E1) hrn hrl) ?_
 rintro _ A2 ⟨B2,c2,rfl,o2,hB2f,e2'⟩
 generalize hot:eI roots syms es=ot at*
 refine⟨B2,_,c2,rfl,λs H=> ∃k:Nat,s=k/\k<=ot.length/\(∀w∈ot.take k,dL ws1 w=0)/\Ext A2 H,λs _=>((ot.length:Int)-s).toNat,⟨0,rfl,by omega,by simp,Ext.refl _⟩,?_⟩
 rintro _ H29 ⟨j,rfl,hj,hnoj,e29⟩
 have eA1:=e2'.trans e29
 have zz:=eA1.size
 have hD29: ∀D∈ms,H29[D]?=some (.deferred (some []))/\D≠b1/\D≠b2:=λD h=>⟨eA1.get (hD' D h).1,(hD' D h).2⟩
 have q1:=eA1.get k1
 have q2:=eA1.get k2
 have q4:=eA1.get k4
 by_cases hlt2:(j:Int)< (ot.length:Int)
 ·rw[if_pos hlt2]
  have hjl:j<ot.length:=by omega
  obtain⟨pa,p1,p2⟩:=jZ (o2.ext e29).src hjl
  refine⟨pa,p1,⟨by omega,hlt2⟩,ot[j],by rw[show Int.toNat (j:Int)=j by omega];exact p2,some mr,by rw[aI q4];rfl,HC.mono ((kM.ext eA1).fault (hww _ (List.getElem_mem hjl))) ?_⟩
  rintro _ H30 ⟨rfl,e30⟩
  refine⟨_,rfl,?_⟩
  by_cases h0:dL ws1 ot[j]=0
  ·rw[if_pos h0]
   have hwr:IntKind.wrap .i64 ((j:Int)+1)=((j+1:Nat):Int):=by
    have:ot.length<=9000000000:=by
     have:=(o2.ext e29).le
     have h1: ∀l:List (Int×Int),(l.flatMap λe=> [e.1,e.2]).length=2*l.length:=λl=>by
      induction l with
      | nil=>rfl
      | cons a l ih=>rw[List.flatMap_cons,List.length_append,ih];simp;omega
     rw[<-hot]
     unfold eI
     rw[List.length_append,List.length_append,h1]
     have:=S.len;omega
    rw[w64 (n:=(j:Int)+1) (by omega)];omega
   rw[hwr]
   refine⟨⟨j+1,rfl,hjl,λw hw=>?_,e29.trans e30⟩,by show((ot.length:Int)-((j+1:Nat):Int)).toNat< ((ot.length:Int)-(j:Int)).toNat;omega⟩
   rw[List.take_succ_eq_append_getElem hjl]at hw
   rcases List.mem_append.1 hw with h | h
   ·exact hnoj w h
   ·simp at h;rw[h];exact h0
  ·rw[if_neg h0]
   obtain⟨c31,s31⟩:=gX (n:=1) (vs:=[.int .i64 (-1)]) (e30.get q1) rfl rfl
   refine⟨c31,λH31 hH31=>?_⟩
   obtain⟨r1,f31⟩:=s31 H31 hH31
   obtain⟨c32,s32⟩:=gX (n:=1) (vs:=[.int .i64 (dL ws1 ot[j])]) (f31.get (by simp;omega) (e30.get q2)) rfl rfl
   refine⟨c32,λH32 hH32=>?_⟩
   obtain⟨r2,f32⟩:=s32 H32 hH32
   have hc:ckV x.sp.mem ws1 ws2 ot=(-1,dL ws1 ot[j]):=by
    unfold ckV
    rw[hckF]
    have:ot.find? (λw=>decide (dL ws1 w≠0))=some ot[j]:=by
     have e1:ot=ot.take j++ot[j]::ot.drop (j+1):=by rw[<-List.drop_eq_getElem_cons hjl,List.take_append_drop]
     conv=>lhs;rw[e1]
     refine mJ (q:=λw:Int=>decide (dL ws1 w≠0)) (zX h0) _ (λy hy=>?_)
     rw[decide_eq_true_eq,Classical.not_not]
     exact hnoj y hy
    simp only[this]
   refine nU (f32.get (by simp;omega) r1) r2 hnd (λD h=>⟨f32.get (by have:=(hD29 D h).2;simp;omega) (f31.get (by have:=(hD29 D h).2;simp;omega) (e30.get (hD29 D h).1)),(hD29 D h).2⟩) (λA3 f3=>hres ?_ (by rw[hc]) (by rw[hc]))
   have zE1:=E1.size
   exact(((E1.trans (eA1.trans e30)).fr_trans f31 (λi hi=>by simp at hi;omega)).fr_trans f32 (λi hi=>by simp at hi;omega)).fr_trans f3 (λi hi=>by have:=(hD i hi).2;omega)
 rw[if_neg hlt2]
 rw[List.take_of_length_le (by omega)]at hnoj
 refine HC.mono (qq (hp.ext (E1.trans eA1)) ok hmk) ?_
 rintro _ H34 ⟨rfl,e34⟩
 obtain⟨c35,s35⟩:=gX (n:=1) (vs:=[.int .i64 0]) (e34.get q1) rfl rfl
 refine⟨_,_,rfl,c35,λH35 hH35=>?_⟩
 obtain⟨r1,f35⟩:=s35 H35 hH35
 obtain⟨c36,s36⟩:=gX (n:=1) (vs:=[.int .i64 0]) (f35.get (by simp;omega) (e34.get q2)) rfl rfl
 refine⟨c36,λH36 hH36=>?_⟩
 obtain⟨r2,f36⟩:=s36 H36 hH36
 have hc:ckV x.sp.mem ws1 ws2 ot=(0,0):=by
  unfold ckV
  rw[hckF]
  have:ot.find? (λw=>decide (dL ws1 w≠0))=none:=by
   rw[List.find?_eq_none]
   intro y hy
   rw[decide_eq_true_eq,Classical.not_not]
   exact hnoj y hy
  simp only[this]
 refine nU (f36.get (by simp;omega) r1) r2 hnd (λD h=>⟨f36.get (by have:=(hD29 D h).2;simp;omega) (f35.get (by have:=(hD29 D h).2;simp;omega) (e34.get (hD29 D h).1)),(hD29 D h).2⟩) (λA3 f3=>hres ?_ (by rw[hc]) (by rw[hc]))
 exact(((E1.trans (eA1.trans e34)).fr_trans f35 (λi hi=>by simp at hi;omega)).fr_trans f36 (λi hi=>by simp at hi;omega)).fr_trans f3 (λi hi=>by have:=(hD i hi).2;omega)
