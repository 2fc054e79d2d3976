/-
  Check, whole (audit). Proves nothing of any one statement.
-/
import Derived.Test.YtojbbgcjiaphjaaGreatAuO
import Derived.Test.YtojbbgcjiaphjaaGreatColS
import Derived.Test.YtojbbgcjiaphjaaGreatWord
import Derived.Test.YtojbbgcjiaphjaaGreatRef01
set_option linter.unusedVariables false
set_option linter.unusedSimpArgs false
namespace Go.Proofs.YtojbbgcjiaphjaaGreat
open Go Go.Proofs.Tryz
variable{a b:Nat}{H:zV}
set_option maxRecDepth 100000 in
set_option maxHeartbeats 1000000 in
theorem uG{bg:Blk}{x:Hp}{b4 m:Nat}{K1 K2:zV->zV->Prop}(hp:HpAt H bg x)(ok:SpOK x.sp)
    (g4:H[b4]?=some (.cells #[.map (some m)] 100 (0,0))) (M:IsMap H m []) (am:m ∉ bg.all/\m≠b4) (an: ∀l,dK x.sp.mem [] l-> ∀p∈bO x.sp.mem l,p.2≠0)
    (ak: ∀l,dK x.sp.mem [] l-> ∀y A':zV,y.size=H.size+1->A'[y.size]?=some (.deferred (some []))->IsMap A' m ((bO x.sp.mem l).map Prod.fst)->Fr [m] H A'->K1 y A'):
 fP.C (some ⟨bg.h,0,none⟩) H (λv y=>v=v/\
  ∀(k:LoopState->Option Code->Obj) (c:Nat) (F:zV),c=y.size+1->F=(y.push (.deferred (some []))).push (k .ready none)->
  ∀vY:Value,(∀(L:Int) (N:Int) (H8:zV) (K:zv),H8[c]?=some (k .ready none)->
  (H8[c]?=some (k .ready none)/\ ∀r:zV,r=aO H8 c (k .busy none)->
   if N=0 then(
    fI.C L r (λau P=> ∃a5:Int,au=vi a5/\
     (aK P (Addr.mk a 0 none) 0 1)/\ ∀B:zV,B=aR P (Addr.mk a 0 none) [vi a5] 0->
     (aK B (Addr.mk b 0 none) 0 1)/\ ∀E:zV,E=aR B (Addr.mk b 0 none) [vi 9] 0->
     E[c]?=some (k .busy none)/\
     K VF (aO E c (k .done (some .ret)))))
   else
   ∃a6:Option Nat,hat r (Addr.mk b4 0 none)=some (.map a6)/\
   ∃m:Nat,a6=some m/\
   ∃(es:Array MapEntry) (cl:Nat) (ks:List (Int×Value)),r[m]?=some (.map es cl)/\Ents (bF .u64) es.toList ks/\
   ∀(z:Array MapEntry) (R:Nat) (f:zV),f=aO r m (.map z R)->Ents (bF .u64) z.toList (mput ks L (vi N))->
   f[c]?=some (k .busy none)/\
   K VT (aO f c (k .ready none)))->
  FC prog vY #[vu L,vi N] H8 K)->
  FE prog v #[vY] F (λ_ o=>
   (o[c]?=some (k .ready none)/\ ∀g:zV,g=aO o c (k .exhausted none)->K1 y g)\/
   (o[c]?=some (k .done (some .ret))/\ ∀g:zV,g=aO o c (k .exhausted (some .ret))->K2 y g))):=by
  refine fP.link ?_
  unfold fP.pt
  intro aT t a0 I
  have e2:Ext H t:=Ext.push' I
  have z2:t.size=H.size+1:=by rw[I];simp
  refine⟨rfl,λk c F b5 s vY hY=>?_⟩
  have e3:Ext t F:=(Ext.push' rfl).trans (Ext.push' s)
  have z3:F.size=t.size+2:=by rw[s];simp
  have W:F[t.size]?=some (.deferred (some [])):=by
    have:(t.push (.deferred (some [])))[t.size]?=some (.deferred (some [])):=aH rfl rfl
    exact(Ext.push' s).get this
  have ai:F[c]?=some (k .ready none):=aH (by simp;omega) s
  have e:=e2.trans e3
  have l4:=aW g4
  have lm:=M.lt
  have lb:=hp.lt
  refine FE.of2 (enters_of func101 (by kernel_rfl) rfl) rfl (qW (S:=[c,m])
    (J:=λl T D=>D[c]?=some (k .ready none)/\T=[]/\IsMap D m (l.map Prod.fst))
    (hp.ext e) ok (e3.get (aH a0 I)) (λi d=>by
      simp at d
      rcases d with rfl | rfl
      · exact⟨by omega,λh=>by have:=lb _ h;omega,by omega⟩
      · exact⟨by omega,am.1,by omega⟩) (λl T D D' ⟨h1,h2,h3⟩ ee=>⟨ee.get h1,h2,h3.ext ee⟩)
    (λl T D h j hj=>by rw[h.2.1]at hj;cases hj) (λl a2 w n aN T D hl Z O hJ=>?_) ⟨ai,rfl,M.ext e⟩ (λl T D hl hJ O=>?_))
  · obtain⟨ql,rfl,hM⟩:=hJ
    have hn:n≠0:=an l hl (w,n) (by rw[Z];simp)
    have z0:=O.size
    refine hY w n D _ ql ⟨ql,λr Y=>?_⟩
    have f5:Fr [c] D r:=by rw[Y];exact Fr.set
    have ao:r[c]?=some (k .busy none):=by rw[Y];exact aY (aW ql)
    rw[if_neg hn]
    have g9:=f5.get (by simp;omega) (O.get (by simp;omega) (e.get g4))
    obtain⟨es,cl,ks,m1,m2,m3⟩:=(hM.keep f5 (by simp;omega)).map
    refine⟨some m,by rw[aP g9];rfl,m,rfl,es,cl,ks,m1,m2,λU Q f A a1=>?_⟩
    have V:Fr [m] r f:=by rw[A];exact Fr.set
    have ah:f[m]?=some (.map U Q):=by rw[A];exact aY (aW m1)
    have a3:=V.get (by simp;omega) ao
    have f9:Fr [c] f (aO f c (k .ready none)):=Fr.set
    refine⟨a3,.inl ⟨rfl,[],⟨aY (aW a3),rfl,⟨U,Q,_,f9.get (by simp;omega) ah,a1,λu=>?_⟩⟩,?_,by simp⟩⟩
    · rw[kO,List.map_append]
      by_cases hu:u=w
      · rw[if_pos hu]
        exact⟨λ_=>⟨n,hn,rfl⟩,λh=>absurd (by simp[hu]) h⟩
      · rw[if_neg hu]
        have q:u∈a2.map Prod.fst++[(w,n)].map Prod.fst ↔ u∈a2.map Prod.fst:=by simp[hu]
        rw[q];exact m3 u
    · exact((f5.mono (λi d _=>by simp at d;simp[d])).trans (V.mono (λi d _=>by simp at d;simp[d]))).trans (f9.mono (λi d _=>by simp at d;simp[d]))
  · obtain⟨ql,rfl,hM⟩:=hJ
    refine .inl ⟨ql,λg X=>?_⟩
    have G:Fr [c] D g:=by rw[X];exact Fr.set
    have z0:=O.size
    refine ak l hl t g (by omega) (G.get (by simp;omega) (O.get (by simp;omega) W)) (hM.keep G (by simp;omega)) ?_
    refine e.fr.trans' ((O.mono (λi d _=>d)).trans (G.mono (λi d _=>by simp at d;simp[d]))) (S:=[]) (λi d _=>by simp at d) (λi d hl=>?_)
    simp at d
    simp;omega
theorem rH{α:Type}{q:α->Bool}{p:α}{b:List α}(c:q p=true): ∀a:List α,(∀y∈a,¬q y=true)->(a++p::b).find? q=some p
  | [],_=>by rw[List.nil_append,List.find?_cons_of_pos c]
  | y::a,h=>by rw[List.cons_append,List.find?_cons_of_neg (h y (by simp))];exact rH c a (λz d=>h z (by simp[d]))
def ckF(m:Mem)(ws1 ws2:List Int):Option (Int×Int):=(ws2.flatMap (aX m)).find? λp=>decide (fO ws1 p.2≠0)
def ckV(m:Mem)(ws1 ws2 ot:List Int):Int×Int:=
  match ckF m ws1 ws2 with
  | some p=>(p.1,fO ws1 p.2)
  | none=>match ot.find? λw=>decide (fO ws1 w≠0)with
    | some w=>(-1,fO ws1 w)
    | none=>(0,0)
theorem uH{m:Mem}(d:bJ m){l:List Nat}(i: ∀k∈l,k<1024): ∀w∈wsOf (bO m l),aG w:=by
  intro w c
  unfold wsOf at c
  obtain⟨p,a,rfl⟩:=List.mem_map.1 c
  have a:=(List.mem_filter.1 a).1
  unfold bO at a
  obtain⟨k,hk,j⟩:=List.mem_flatMap.1 a
  have hk:=i k hk
  have key: ∀(f:Nat) (t:Int),0<=t->p∈kI m (k:Int) t f->aG p.1:=by
    intro f
    induction f with
    | zero=>intro t o h;cases h
    | succ f q=>
      intro t o h
      unfold kI at h
      by_cases hn:t< (m.seg (k:Int).toNat).n
      · rw[if_pos hn]at h
        have e:=(d.seg (k:Int).toNat).n
        have g:=(d.seg (k:Int).toNat).kind
        rcases List.mem_cons.1 h with h | h
        · rw[h]
          have:tagA (m.seg (k:Int).toNat).kind=1\/tagA (m.seg (k:Int).toNat).kind=2\/tagA (m.seg (k:Int).toNat).kind=3:=by unfold tagA;split<;>(try split)<;>omega
          show aG (((k:Int)*64+t)*8+tagA (m.seg (k:Int).toNat).kind)
          generalize tagA (m.seg (k:Int).toNat).kind=s at*
          constructor<;>omega
        · have r:=ku m (((k:Int)*64+t)*8+tagA (m.seg (k:Int).toNat).kind)
          by_cases b:m.sizeOf (((k:Int)*64+t)*8+tagA (m.seg (k:Int).toNat).kind)=0
          · rw[if_pos b]at h;cases h
          · rw[if_neg b]at h
            exact q _ (by omega) h
      · rw[if_neg hn]at h;cases h
  exact key 64 0 (by omega) j
theorem tJ{j k:Int}{d:List Nat}{R:zv}(n:H[a]?=some (.cells #[vi j] 3 (0,0)))(o:H[b]?=some (.cells #[vi k] 45 (0,0)))
  (i:d.Nodup) (g: ∀D∈d,H[D]?=some (.deferred (some []))/\D≠a/\D≠b) (p: ∀l,Fr d H l->R (.tuple #[vi j,vi k]) l):
  Shut d H (λc=>
     ∃r:Int,hat c (Addr.mk a 0 none)=some (vi r)/\
     ∃e:Int,hat c (Addr.mk b 0 none)=some (vi e)/\
     R (.tuple #[vi r,vi e]) c):=
 nY d H i (λD h=>(g D h).1) (λm f=>⟨j,by rw[aP (f.get (λh=>(g _ h).2.1 rfl) n)];rfl,k,by rw[aP (f.get (λh=>(g _ h).2.2 rfl) o)];rfl,p m f⟩)
set_option maxRecDepth 100000 in
set_option maxHeartbeats 2000000 in
theorem rI{d9:Blk}{x:Hp}{rB:zW}{roots syms:List Int}{es:List (Int×Int)}(hp:HpAt H d9 x)(ok:SpOK x.sp)(S:oA H d9 x syms es)(hr:fB H rB (wvs roots))(bN:a=roots.length)(bM:a<=1000000)
  (bU: ∀w∈gM roots syms es,aG w) (bP: ∀l,dK x.sp.mem [] l-> ∀p∈bO x.sp.mem l,p.2≠0) (bG: ∀k:Nat,x.sp.mem.has k-> ∀c:Nat,c<4->(x.sp.mem.seg k).cards c<=x.sp.mem.mark1 k c):
  fV.C (some ⟨d9.h,0,none⟩) rB a b H (λv A'=> ∃l N:List Nat,dK x.sp.mem [] l/\dK x.sp.mem [] N/\v=.tuple #[vi (ckV x.sp.mem ((bO x.sp.mem l).map Prod.fst) (wsOf (bO x.sp.mem N)) (gM roots syms es)).1,vi (ckV x.sp.mem ((bO x.sp.mem l).map Prod.fst) (wsOf (bO x.sp.mem N)) (gM roots syms es)).2]/\Ext H A'):=by
 refine HC.via λR hR=>fV.link ?_
 unfold fV.pt zY
 intro ba H1 bC a7 bb H2 bE a8 mr H3 bH a9 bo H4 b1 aa
 have hb:=hp.lt
 have e1:Ext H H1:=Ext.push' a7
 have e2:Ext H1 H2:=Ext.push' a8
 have e3:Ext H2 H3:=Ext.push' a9
 have z1:H1.size=H.size+1:=by rw[a7];simp
 have z2:H2.size=H1.size+1:=by rw[a8];simp
 have z3:H3.size=H2.size+1:=by rw[a9];simp
 have z4:H4.size=H3.size+1:=by rw[aa];simp
 obtain⟨c4,s4⟩:=gU (A3:=aR H4 (Addr.mk bo 0 none) [.map (some mr)] 0) b1 aa [.map (some mr)] rfl
 refine⟨c4,λH5 aZ=>?_⟩
 obtain⟨g4,e5⟩:=s4 rfl
 rw[<-aZ]at g4 e5
 have ax:H5[bo]?=some (.cells #[.map (some mr)] 100 (0,0)):=g4
 have z5:H5.size=H4.size:=by rw[aZ,cH _ _ _ _ _ (aH b1 aa)];simp
 have Y:=e3.trans e5
 have E5:=(e1.trans e2).trans Y
 have g1:=(e2.trans Y).get (aH bC a7)
 have g2:=Y.get (aH bE a8)
 have gm:=e5.get (aH bH a9)
 have M0:IsMap H5 mr []:=⟨#[],0,[],gm,rfl,λw=>⟨λh=>(by cases h),λ_=>rfl⟩⟩
 refine uG (hp.ext E5) ok ax M0 ⟨λh=>by have:=hb _ h;omega,by omega⟩ bP ?_
 intro l hl H6 be h6 ay bn F
 have cQ:=F.size
 have av:Ext H be:=E5.fr_trans F (λi t=>by simp at t;omega)
 have a4:=F.get (by simp;omega) g1
 have a5:=F.get (by simp;omega) g2
 have a6:=F.get (by simp;omega) ax
 refine HC.mono (sG (hp.ext av) ok (λj hj=>by have:=hb j hj;omega)) ?_
 rintro _ cs ⟨B,c,N,ab,rfl,hown,cD,u⟩
 have ae:=uH ok.mem (l:=N) (λk hk=>by have:=(ab.has hk).2.1;have:=ok.mem.lim;omega)
 have co:(wsOf (bO x.sp.mem N)).length<=65536:=by
  have h1:=sD (bO x.sp.mem N)
  have h2:=mP x.sp.mem N
  have h3:=ab.len
  have h4:=ok.mem.lim
  omega
 generalize b4:(bO x.sp.mem l).map Prod.fst=f at*
 generalize b5:wsOf (bO x.sp.mem N)=d at*
 have K: ∀{A':zV} {r1 r2:Int},Ext H A'->r1=(ckV x.sp.mem f d (gM roots syms es)).1->r2=(ckV x.sp.mem f d (gM roots syms es)).2->R (.tuple #[vi r1,vi r2]) A':=λe q1 q2=>hR _ _ ⟨l,N,hl,ab,by rw[b4,b5,q1,q2],e⟩
 have cR:=u.size
 have Q: ∀D:Nat,D>=H5.size->D≠ba/\D≠bb:=λD h=>by omega
 refine⟨B,_,c,rfl,λs ms L=> ∃k:Nat,s=k/\k<=d.length/\(∀w∈d.take k,∀p∈aX x.sp.mem w,fO f p.2=0)/\ms.Nodup/\(∀D∈ms,L[D]?=some (.deferred (some []))/\H5.size<=D)/\Ext H L/\H5.size<=L.size/\
   L[ba]?=some (.cells #[vi 0] 3 (0,0))/\L[bb]?=some (.cells #[vi 0] 45 (0,0))/\L[bo]?=some (.cells #[.map (some mr)] 100 (0,0))/\IsMap L mr f/\Own L 40 1 B d.length c (wvs d),
  λs _ _=>((d.length:Int)-s).toNat,
  ⟨0,rfl,by omega,by simp,by simp,λD z=>by simp at z;rw[z];exact⟨u.get ay,by omega⟩,av.trans u,by omega,u.get a4,u.get a5,u.get a6,bn.ext u,hown⟩,?_⟩
 rintro _ ms L ⟨k,rfl,hk,U,T,z,M,cS,k1,k2,k4,kM,X⟩
 have az: ∀D∈ms,L[D]?=some (.deferred (some []))/\D≠ba/\D≠bb:=λD h=>⟨(z D h).1,Q D (z D h).2⟩
 by_cases ac:(k:Int)< (d.length:Int)
 ·rw[if_pos ac]
  have I:k<d.length:=by omega
  obtain⟨pa,p1,p2⟩:=lI X.src I
  refine⟨pa,p1,⟨by omega,ac⟩,d[k],by rw[show Int.toNat (k:Int)=k by omega];exact p2,?_⟩
  have af:IntKind.wrap .i64 ((k:Int)+1)=((k+1:Nat):Int):=by rw[w64 (n:=(k:Int)+1) (by omega)];omega
  rw[af]
  refine uE (hp.ext M) ok k1 k2 k4 kM (ae _ (List.getElem_mem I)) (by omega) ?_ ?_
  ·intro hf bf A' bB gd r
   have cf:=r.size
   refine⟨⟨k+1,rfl,I,λw hw=>?_,?_,λD h=>?_,M.trans r,by omega,r.get k1,r.get k2,r.get k4,kM.ext r,X.ext r⟩,by show((d.length:Int)-((k+1:Nat):Int)).toNat< ((d.length:Int)-(k:Int)).toNat;omega⟩
   ·rw[List.take_succ_eq_append_getElem I]at hw
    rcases List.mem_append.1 hw with h | h
    ·exact U w h
    ·simp at h;rw[h];exact hf
   ·rw[List.nodup_cons]
    exact⟨λh=>by have:=aW (z _ h).1;omega,T⟩
   ·rcases List.mem_cons.1 h with h | h
    ·rw[h];exact⟨gd,by omega⟩
    ·exact⟨r.get (z D h).1,(z D h).2⟩
  ·intro c8 d8 v b7 b0 b2 bT bf A' bB gd q1 q2 a3
   have cf:=a3.size
   have V:ckV x.sp.mem f d (gM roots syms es)=(d8,fO f v):=by
    unfold ckV
    have:ckF x.sp.mem f d=some (d8,v):=by
     unfold ckF
     have e:d.flatMap (aX x.sp.mem)=((d.take k).flatMap (aX x.sp.mem)++c8)++(d8,v)::(b7++(d.drop (k+1)).flatMap (aX x.sp.mem)):=by
      have e1:d=d.take k++d[k]::d.drop (k+1):=by rw[<-List.drop_eq_getElem_cons I,List.take_append_drop]
      conv=>lhs;rw[e1]
      rw[List.flatMap_append,List.flatMap_cons,b0];simp
     rw[e]
     refine rH (q:=λp:Int×Int=>decide (fO f p.2≠0)) (p:=(d8,v)) (zX bT) _ (λy hy=>?_)
     rw[decide_eq_true_eq,Classical.not_not]
     rcases List.mem_append.1 hy with h | h
     ·obtain⟨w,h1,h2⟩:=List.mem_flatMap.1 h
      exact U w h1 y h2
     ·exact b2 y h
    rw[this]
   refine tJ q1 q2 ?_ (λD h=>?_) (λA2 f2=>K ((M.fr_trans a3 (λi t=>by simp at t;omega)).fr_trans f2 (λi t=>?_)) (by rw[V]) (by rw[V]))
   ·rw[List.nodup_cons]
    exact⟨λh=>by have:=aW (z _ h).1;omega,T⟩
   ·rcases List.mem_cons.1 h with h | h
    ·rw[h];exact⟨gd,Q _ (by omega)⟩
    ·exact⟨a3.get (by have:=Q _ (z D h).2;simp;omega) (z D h).1,Q _ (z D h).2⟩
   ·rcases List.mem_cons.1 t with h | h
    ·omega
    ·have:=(z i h).2;omega
 rw[if_neg ac]
 rw[List.take_of_length_le (by omega)]at U
 have W:ckF x.sp.mem f d=none:=by
  unfold ckF
  rw[List.find?_eq_none]
  intro y hy
  rw[decide_eq_true_eq,Classical.not_not]
  obtain⟨w,h1,h2⟩:=List.mem_flatMap.1 hy
  exact U w h1 y h2
 refine HC.mono (vC (hp.ext M) (S.ext M) (hr.ext M) bN bM) ?_
 rintro _ A2 ⟨B2,c2,rfl,o2,ck,bu⟩
 generalize bI:gM roots syms es=m at*
 refine⟨B2,_,c2,rfl,λs d7=> ∃k:Nat,s=k/\k<=m.length/\(∀w∈m.take k,fO f w=0)/\Ext A2 d7,λs _=>((m.length:Int)-s).toNat,⟨0,rfl,by omega,by simp,Ext.refl _⟩,?_⟩
 rintro _ bg ⟨j,rfl,hj,A,O⟩
 have o:=bu.trans O
 have zz:=o.size
 have g: ∀D∈ms,bg[D]?=some (.deferred (some []))/\D≠ba/\D≠bb:=λD h=>⟨o.get (az D h).1,(az D h).2⟩
 have q1:=o.get k1
 have q2:=o.get k2
 have q4:=o.get k4
 by_cases J:(j:Int)< (m.length:Int)
 ·rw[if_pos J]
  have G:j<m.length:=by omega
  obtain⟨pa,p1,p2⟩:=lI (o2.ext O).src G
  refine⟨pa,p1,⟨by omega,J⟩,m[j],by rw[show Int.toNat (j:Int)=j by omega];exact p2,some mr,by rw[aP q4];rfl,HC.mono ((kM.ext o).fault (bU _ (List.getElem_mem G))) ?_⟩
  rintro _ ct ⟨rfl,E⟩
  refine⟨_,rfl,?_⟩
  by_cases h0:fO f m[j]=0
  ·rw[if_pos h0]
   have af:IntKind.wrap .i64 ((j:Int)+1)=((j+1:Nat):Int):=by
    have:m.length<=9000000000:=by
     have:=(o2.ext O).le
     have h1: ∀l:List (Int×Int),(l.flatMap λe=> [e.1,e.2]).length=2*l.length:=λl=>by
      induction l with
      | nil=>rfl
      | cons d8 l ih=>rw[List.flatMap_cons,List.length_append,ih];simp;omega
     rw[<-bI]
     unfold gM
     rw[List.length_append,List.length_append,h1]
     have:=S.len;omega
    rw[w64 (n:=(j:Int)+1) (by omega)];omega
   rw[af]
   refine⟨⟨j+1,rfl,G,λw hw=>?_,O.trans E⟩,by show((m.length:Int)-((j+1:Nat):Int)).toNat< ((m.length:Int)-(j:Int)).toNat;omega⟩
   rw[List.take_succ_eq_append_getElem G]at hw
   rcases List.mem_append.1 hw with h | h
   ·exact A w h
   ·simp at h;rw[h];exact h0
  ·rw[if_neg h0]
   obtain⟨bp,c9⟩:=jP (n:=1) (vs:=[vi (-1)]) (E.get q1) rfl rfl
   refine⟨bp,λbi aB=>?_⟩
   obtain⟨r1,Z⟩:=c9 bi aB
   obtain⟨bq,cc⟩:=jP (n:=1) (vs:=[vi (fO f m[j])]) (Z.get (by simp;omega) (E.get q2)) rfl rfl
   refine⟨bq,λbj aC=>?_⟩
   obtain⟨r2,a0⟩:=cc bj aC
   have V:ckV x.sp.mem f d m=(-1,fO f m[j]):=by
    unfold ckV
    rw[W]
    have:m.find? (λw=>decide (fO f w≠0))=some m[j]:=by
     have e1:m=m.take j++m[j]::m.drop (j+1):=by rw[<-List.drop_eq_getElem_cons G,List.take_append_drop]
     conv=>lhs;rw[e1]
     refine rH (q:=λw:Int=>decide (fO f w≠0)) (zX h0) _ (λy hy=>?_)
     rw[decide_eq_true_eq,Classical.not_not]
     exact A y hy
    simp only[this]
   refine tJ (a0.get (by simp;omega) r1) r2 T (λD h=>⟨a0.get (by have:=(g D h).2;simp;omega) (Z.get (by have:=(g D h).2;simp;omega) (E.get (g D h).1)),(g D h).2⟩) (λA3 f3=>K ?_ (by rw[V]) (by rw[V]))
   have cT:=M.size
   exact(((M.trans (o.trans E)).fr_trans Z (λi t=>by simp at t;omega)).fr_trans a0 (λi t=>by simp at t;omega)).fr_trans f3 (λi t=>by have:=(z i t).2;omega)
 rw[if_neg J]
 rw[List.take_of_length_le (by omega)]at A
 refine HC.mono (wP (hp.ext (M.trans o)) ok bG) ?_
 rintro _ cu ⟨rfl,P⟩
 obtain⟨br,cd⟩:=jP (n:=1) (vs:=[vi 0]) (P.get q1) rfl rfl
 refine⟨_,_,rfl,br,λbk aN=>?_⟩
 obtain⟨r1,a1⟩:=cd bk aN
 obtain⟨bs,ce⟩:=jP (n:=1) (vs:=[vi 0]) (a1.get (by simp;omega) (P.get q2)) rfl rfl
 refine⟨bs,λbl aT=>?_⟩
 obtain⟨r2,a2⟩:=ce bl aT
 have V:ckV x.sp.mem f d m=(0,0):=by
  unfold ckV
  rw[W]
  have:m.find? (λw=>decide (fO f w≠0))=none:=by
   rw[List.find?_eq_none]
   intro y hy
   rw[decide_eq_true_eq,Classical.not_not]
   exact A y hy
  simp only[this]
 refine tJ (a2.get (by simp;omega) r1) r2 T (λD h=>⟨a2.get (by have:=(g D h).2;simp;omega) (a1.get (by have:=(g D h).2;simp;omega) (P.get (g D h).1)),(g D h).2⟩) (λA3 f3=>K ?_ (by rw[V]) (by rw[V]))
 exact(((M.trans (o.trans P)).fr_trans a1 (λi t=>by simp at t;omega)).fr_trans a2 (λi t=>by simp at t;omega)).fr_trans f3 (λi t=>by have:=(z i t).2;omega)
end Go.Proofs.YtojbbgcjiaphjaaGreat
namespace Go.Proofs.YtojbbgcjiaphjaaGreat
open Go
variable{a:Mem}
theorem rJ{O:Nat->Bool}{fw:Int->Option Int}{v:Int}(h:FW v):FW (Fw O fw v):=by
 unfold Fw
 by_cases a:aV O v
 ·rw[if_pos a]
  have:=a.1.1
  have:=a.2.1
  cases fw (v / 8)with
  | none=>exact h
  | some b=>exact .inr (.inr (by unfold cE;show(b*8+v % 8) % 8=1\/(b*8+v % 8) % 8=2\/(b*8+v % 8) % 8=3;omega))
 ·rw[if_neg a];exact h
section
variable {Z:TZ} {g F0:Int} {fw:Int->Option Int} {al:List Int} {s:Sp} {sz:Int->Nat}
theorem eZ.snd{C:Tr}{B:Sp}(t:eZ Z g F0 fw al sz C s B a)(h:Snd Z.m Z.sz):Snd a (szE Z.O sz):=by
 have S:=t.S
 refine⟨λx z=>?_,λb i d c r p=>?_⟩
 ·obtain⟨o,y⟩:=t.used.1 z
  rcases t.tri.cover x o with q | ⟨D,b,i,d,c,rfl⟩
  ·obtain⟨D,i,j,c,rfl⟩:=h.cover x q
   have l:=S.sound.usedAt j c (λk=>(S.ok.seg k).n.2)
   have e:szE Z.O sz D=Z.sz D:=by
    unfold szE
    rw[if_neg (by rw[<-l.2.1,y];decide),t.tri.sz0 _ (S.sound.used D j).1]
   exact⟨D,i,by rw[e];exact j,by rw[e];exact c,rfl⟩
  ·obtain⟨f,A⟩:=t.tri.img D b d
   have m:=(t.tri.olds.mem D ((t.tri.al D).2 ⟨b,d⟩)).1
   have e:szE Z.O sz b=Z.sz D:=by
    unfold szE
    rw[if_neg (by rw[A.out];decide),f]
   exact⟨b,i,by rw[e];exact m,by rw[e];exact c,rfl⟩
 ·obtain⟨D,v,f,hk,_,w,_,_⟩:=t.thing d
  rw[f]at c
  rw[hk]at r p
  have u:=h.fine D i v c r p
  rcases t.get (w i c).2.1 with⟨q,_⟩ | ⟨q,_⟩
  ·rw[q]
   split
   ·exact u
   ·exact rJ u
  ·rw[q];exact .inr (.inl ⟨by decide,by decide⟩)
theorem eZ.nowk{m:Tr}{l:Sp}(t:eZ Z g F0 fw al sz m s l a)(h:NoWk Z.m):NoWk a:=by
 have S:=t.S
 intro x j
 obtain⟨d,r⟩:=t.used.1 j
 rw[(t.kind j).1]
 rcases t.tri.cover x d with q | ⟨u,b,i,f,p,rfl⟩
 ·rw[(t.tri.kAt q).1];exact h x q
 ·obtain⟨n,k⟩:=t.tri.img u b f
  have c:=(t.tri.olds.mem u ((t.tri.al u).2 ⟨b,f⟩)).1
  have o:=k.fit
  have e:s.mem.kAt (b+i)=s.mem.kAt b:=by unfold Mem.kAt;rw[show(b+(i:Int)) / 64=b / 64 by omega]
  rw[e,k.kind]
  exact h u (S.sound.used u c).1
end
section
variable {s:Sp} {sz:Int->Nat}
def thW(m:Mem)(a:Int):Int:=a*8+tagA (m.kAt a)
theorem vF(k:Int):tagA k=1\/tagA k=2\/tagA k=3:=by
 unfold tagA
 split
 ·exact .inl rfl
 split
 ·exact .inr (.inl rfl)
 ·exact .inr (.inr rfl)
theorem vG(I:Inv s sz){a:Int}(h:sz a≠0):aG (thW s.mem a)/\Good s.mem sz (thW s.mem a)/\cE (thW s.mem a)/\thW s.mem a / 8=a/\s.mem.sizeOf (thW s.mem a)=sz a:=by
 have j:=I.sound.lt I.ok.mem h
 have i:=vF (s.mem.kAt a)
 have b:thW s.mem a / 8=a:=by unfold thW;omega
 have c:thW s.mem a % 8=tagA (s.mem.kAt a):=by unfold thW;omega
 have f:aG (thW s.mem a):=by unfold thW;constructor<;>omega
 have d:cE (thW s.mem a):=by unfold cE;rw[c];exact i
 have e:Good s.mem sz (thW s.mem a):=⟨by rw[c];omega,λ_=>by rw[b,c];exact⟨h,rfl⟩⟩
 refine⟨f,e,d,b,?_⟩
 rw[I.sound.size I.ok.mem f e d,b]
theorem tK{v:Int}(d:Good a sz v)(e:cE v):v=thW a (v / 8):=by
 obtain⟨_,c⟩:=d.2 e
 have b:v % 8=tagA (a.kAt (v / 8)):=c
 unfold thW
 rw[<-b];omega
theorem sJ(I:Inv s sz)(x:Snd s.mem sz){k:Nat}(hk:s.mem.has k): ∀(f:Nat) (b:Int),0<=b->(s.mem.seg k).n-b<=f->(∀a,sz a≠0->a / 64=k->a<k*64+b->a+sz a<=k*64+b)->
  (∀p∈kI s.mem k b f,∃a,sz a≠0/\p.1=thW s.mem a/\p.2=(sz a:Int))/\ ∀a,sz a≠0->a / 64=k->k*64+b<=a->thW s.mem a∈(kI s.mem k b f).map Prod.fst
 | 0,b,h0,hf,hb=>by
  refine⟨λp l=>by simp[kI]at l,λa d h o=>?_⟩
  obtain⟨G,w⟩:=I.sound.used a d
  rw[show(a / 64).toNat=k by omega]at w
  omega
 | f+1,b,h0,hf,hb=>by
  unfold kI
  rw[Int.toNat_natCast]
  by_cases r:b< (s.mem.seg k).n
  case neg=>
   rw[if_neg r]
   refine⟨λp l=>by simp at l,λa d h o=>?_⟩
   obtain⟨G,w⟩:=I.sound.used a d
   rw[show(a / 64).toNat=k by omega]at w
   omega
  rw[if_pos r]
  have hn:=(I.ok.mem.seg k).n
  have D:s.mem.used ((k:Int)*64+b):=⟨by omega,by rw[show((k:Int)*64+b) / 64=k by omega];exact hk,by rw[show((k:Int)*64+b) / 64=k by omega,Int.toNat_natCast];omega⟩
  obtain⟨a,i,d,A,z⟩:=x.cover _ D
  have t:=I.sound.usedAt d A (λk=>(I.ok.mem.seg k).n.2)
  have h:a / 64=k:=by rw[<-t.2.1,<-z];omega
  have B:i=0:=by
   have:=hb a d h
   omega
  have u:(k:Int)*64+b=a:=by omega
  have v:(s.mem.seg k).kind=s.mem.kAt a:=by unfold Mem.kAt;rw[h,Int.toNat_natCast]
  obtain⟨J,K,L,M,H⟩:=vG I d
  have C:((k:Int)*64+b)*8+tagA (s.mem.seg k).kind=thW s.mem a:=by unfold thW;rw[u,v]
  rw[C,H,if_neg (by omega)]
  obtain⟨E,F⟩:=sJ I x hk f (b+sz a) (by omega) (by omega) (λc m j y=>by
   rcases Int.lt_or_le c a with q | q
   ·have:=hb c m j (by omega);omega
   ·by_cases e:c=a
    ·subst e;omega
    ·have:=I.sound.apart a c d m (by omega);omega)
  refine⟨λp l=>?_,λc m j o=>?_⟩
  ·rcases List.mem_cons.1 l with rfl | l
   ·exact⟨a,d,rfl,rfl⟩
   ·exact E p l
  ·by_cases e:c=a
   ·subst e;exact List.mem_map.2 ⟨_,List.mem_cons_self ..,rfl⟩
   ·have:=I.sound.apart a c d m (by omega)
    rw[List.map_cons]
    exact List.mem_cons_of_mem _ (F c m j (by omega))
theorem nE(I:Inv s sz)(m:Snd s.mem sz){l:List Nat}(h:dK s.mem [] l):
  (∀p∈bO s.mem l,∃a,sz a≠0/\p.1=thW s.mem a/\p.2=(sz a:Int))/\ ∀a,sz a≠0->thW s.mem a∈(bO s.mem l).map Prod.fst:=by
 have d: ∀k∈l,_:=λk hk=>sJ I m (h.has hk).1 64 0 (Int.le_refl _) (by have:=(I.ok.mem.seg k).n;omega) (λa f o q=>by omega)
 refine⟨λp b=>?_,λa f=>?_⟩
 ·unfold bO at b
  obtain⟨k,hk,b⟩:=List.mem_flatMap.1 b
  exact(d k hk).1 p b
 ·obtain⟨i,r⟩:=I.sound.used a f
  have c:=h.all I.ok.mem i.2.1
  have j:=i.1
  obtain⟨p,b,e⟩:=List.mem_map.1 ((d _ c).2 a f (by omega) (by omega))
  exact List.mem_map.2 ⟨p,by unfold bO;exact List.mem_flatMap.2 ⟨_,c,b⟩,e⟩
theorem vH(I:Inv s sz): ∀k:Nat,s.mem.has k-> ∀c:Nat,c<4->(s.mem.seg k).cards c<=s.mem.mark1 k c:=by
 intro k hk c j
 have key: ∀n,n<=s.mem.cardLen k c->(s.mem.seg k).cards c<=s.mem.markOf k c n:=by
  intro n
  induction n with
  | zero=>intro _;exact((I.ok.mem.seg k).cards c).2
  | succ n b=>
   intro hn
   have b:=b (by omega)
   rw[Mem.markOf_succ]
   unfold Mem.younger
   rw[Int.toNat_natCast]
   split
   ·rename_i h
    obtain⟨d,e,f⟩:=h
    unfold Mem.cardLen at hn
    rw[Int.toNat_natCast]at hn
    have a:((k:Int)*64+c*16+n) / 64=k:=by omega
    have i:s.mem.used ((k:Int)*64+c*16+n):=⟨by omega,by rw[a];exact hk,by rw[a,Int.toNat_natCast];omega⟩
    have hm:=I.marked _ i (by unfold Mem.kAt;rw[a,Int.toNat_natCast];exact e) d (by unfold Mem.gAt;rw[a,Int.toNat_natCast];exact f)
    rw[a,Int.toNat_natCast,show(((k:Int)*64+c*16+n) % 64 / 16).toNat=c by omega]at hm
    exact Int.le_min.2 ⟨b,hm⟩
   ·exact b
 exact key _ (Nat.le_refl _)
theorem sK{f:List Int}(I:Inv s sz)(b: ∀a,sz a≠0->thW s.mem a∈f){v:Int}(k:aG v)(c:Good s.mem sz v)(i:FW v):fO f v=0:=by
 unfold fO
 rcases i with h | ⟨h,hm⟩ | h
 ·rw[if_neg (by omega),if_neg (by omega),if_pos (u7 h)]
 ·rw[if_neg (by omega),if_neg (by omega),if_pos hm]
 ·have d:=c.2 h
  have j:=I.sound.lt I.ok.mem d.1
  have hm:mayW v=true:=by
   unfold cE at h
   unfold mayW
   rw[if_neg (by omega),if_pos (by omega),zX j.2]
  have e:=b _ d.1
  rw[<-tK c h]at e
  unfold cE at h
  rw[if_neg (by omega),if_neg (λq=>q.2.2 e),if_pos hm]
theorem oS(I:Inv s sz)(F:Snd s.mem sz){a:Int}(l:sz a≠0): ∀p∈aX s.mem (thW s.mem a),aG p.2/\Good s.mem sz p.2/\FW p.2:=by
 obtain⟨O,P,N,y,B⟩:=vG I l
 have L:=I.sound.lt I.ok.mem l
 have u:aOf (thW s.mem a)=a:=by
  unfold cE at N
  unfold aOf
  rw[if_pos ⟨by omega,by rw[y];exact L.2⟩,y]
 have D:=(I.ok.mem.seg (a / 64).toNat).kind
 have E:0<=s.mem.kAt a/\s.mem.kAt a<=3:=D
 have b:s.mem.sizeOf (thW s.mem a)≠0:=by rw[B];omega
 have c:2<=s.mem.kAt a->s.mem.isObj (thW s.mem a)/\s.mem.typ (thW s.mem a)=hk (s.mem.get a):=λt=>by
  have w: ¬s.mem.isPair (thW s.mem a):=λf=>by
   have:=(nC b).1 f
   have e:thW s.mem a % 8=3:=by
    have:tagA (s.mem.kAt a)=3:=by unfold tagA;rw[if_neg (by omega),if_neg (by omega)]
    unfold thW;omega
   exact this e
  have r:s.mem.isObj (thW s.mem a):=by
   unfold Mem.sizeOf at b
   rw[if_neg w]at b
   by_cases q:s.mem.isObj (thW s.mem a)
   ·exact q
   ·rw[if_neg q]at b;exact absurd rfl b
  exact⟨r,by unfold Mem.typ;rw[if_pos r,y]⟩
 intro p f
 unfold aX at f
 by_cases x:s.mem.typ (thW s.mem a)=2\/s.mem.typ (thW s.mem a)=3
 ·rw[if_pos x]at f;simp at f
 rw[if_neg x]at f
 obtain⟨i,H,rfl⟩:=List.mem_map.1 f
 rw[List.mem_range,B]at H
 show aG (s.mem.read _)/\Good s.mem sz (s.mem.read _)/\FW (s.mem.read _)
 rw[u]
 have A:cV s.mem (thW s.mem a)=0\/cV s.mem (thW s.mem a)=1:=by unfold cV;split<;>simp
 obtain⟨j,J⟩: ∃j:Nat,cV s.mem (thW s.mem a)+(i:Int)=j:=⟨(cV s.mem (thW s.mem a)+(i:Int)).toNat,by omega⟩
 rw[J]
 have m:j<sz a:=by omega
 have d:=I.sound.usedAt l m (λk=>(I.ok.mem.seg k).n.2)
 have M:s.mem.read (a+j)=s.mem.get (a+j):=by unfold Mem.read;rw[if_pos d.1]
 rw[M]
 have v:s.mem.kAt (a+j)=s.mem.kAt a:=by unfold Mem.kAt;rw[d.2.1]
 have z:s.mem.kAt a≠3:=λe=>by
  obtain⟨r,h⟩:=c (by omega)
  have:=(I.sound.obj a l (by omega)).2.1
  rw[e]at this
  unfold rawK at this
  rw[<-h]at this
  split at this
  ·rename_i q;exact x q
  ·omega
 refine⟨(I.ok.mem.seg _).words _,I.sound.good _ d.1 (by rw[v];exact z),F.fine a j l m z (λt K=>?_)⟩
 obtain⟨r,h⟩:=c t
 have G:=(I.sound.obj a l t).1
 have o:s.mem.typ (thW s.mem a)>0:=by rw[h];have C:=G.2;unfold hk;omega
 have:cV s.mem (thW s.mem a)=1:=by unfold cV;rw[if_pos o]
 omega
theorem xk(I:Inv s sz)(i:Snd s.mem sz){l k:List Nat}(u:dK s.mem [] l)(j:dK s.mem [] k){m:List Int}(v: ∀w∈m,aG w/\Good s.mem sz w/\FW w):
  ckV s.mem ((bO s.mem l).map Prod.fst) (wsOf (bO s.mem k)) m=(0,0):=by
 obtain⟨z,n⟩:=nE I i u
 obtain⟨y,A⟩:=nE I i j
 have o:ckF s.mem ((bO s.mem l).map Prod.fst) (wsOf (bO s.mem k))=none:=by
  unfold ckF
  rw[List.find?_eq_none]
  intro p b
  obtain⟨w,c,b⟩:=List.mem_flatMap.1 b
  unfold wsOf at c
  obtain⟨q,x,rfl⟩:=List.mem_map.1 c
  obtain⟨a,t,e,_⟩:=y q (List.mem_filter.1 x).1
  rw[e]at b
  obtain⟨d,f,h⟩:=oS I i t p b
  rw[sK I n d f h];decide
 have r:m.find? (λw=>decide (fO ((bO s.mem l).map Prod.fst) w≠0))=none:=by
  rw[List.find?_eq_none]
  intro w c
  obtain⟨d,f,h⟩:=v w c
  rw[sK I n d f h];decide
 unfold ckV
 rw[o]
 simp only[]
 rw[r]
end
end Go.Proofs.YtojbbgcjiaphjaaGreat
namespace Go.Proofs.YtojbbgcjiaphjaaGreat
open Go
open Go.ChangeShapes Go.WideShapes
variable{H i:zV}{a b:Nat}{d:gO}{j:Hp}{k:Int->Nat}{o q:List Int}{r u:zW}
def bulk:Nat:=1048576
theorem uf{v:lJ}(h:jv.ok a H v):jv.ok maxLen H v:=⟨h.w,h.ofv⟩
theorem slUp{α:Type}{r c:Rdr α}{s:Sl α}(h:SlOK a r b H s)(f:b<=maxLen)(g: ∀y,r.cells y=c.cells y)(j: ∀y,r.ok b H y->c.ok maxLen H y):SlOK a c maxLen H s:=
  ⟨h.len,Nat.le_trans h.le f,h.cap,λi k=>by obtain⟨m,d,e⟩:=h.row i k;exact⟨m,d,by rw[<-g];exact e⟩,λy l=>j y (h.each y l)⟩
theorem xx(b:a<=maxLen){c:lT}(h:lQ.ok a H c):lQ.ok maxLen H c:=
  ⟨h.dov,h.kind,h.n,uf h.x,uf h.y,slUp h.l b (λ_=>rfl) (λ_=>uf)⟩
theorem roundUp(b:a<=maxLen)(h:kX.ok a H d):kX.ok maxLen H d:=
  ⟨slUp h.acts b (λ_=>rfl) (λ_=>xx b),slUp h.guard b (λ_=>rfl) (λ_ _=>trivial),slUp h.symbols b (λ_=>rfl) (λ_=>uf),h.g,h.target,h.keep⟩
theorem vI{keep i:Int}(c:0<=i):dG.C keep i H (λv a=>(∃t:Bool,v=.bool t)/\a=H):=by
  refine HC.via λR b=>dG.link ?_
  unfold dG.pt
  have:=Int.tmod_nonneg 32 c
  exact⟨this,b _ _ ⟨⟨_,rfl⟩,rfl⟩⟩
def wZ(rs:List gO):Prop:=rs.length<=12/\ ∀r∈rs,r.acts.n<=401/\r.symbols.n<=400
set_option maxRecDepth 100000 in
theorem vJ{s:Sl gO}(A:SlOK 6 kX bulk H s):dZ.C s.p s.n s.c H (λv H'=> ∃t:Bool,v=.bool t/\(t=false->wZ s.xs)/\H'=H):=by
  refine HC.via λR W=>dZ.link ?_
  unfold dZ.pt zY
  have X:=A.len
  by_cases z:(s.n:Int)>12
  · rw[if_pos z]
    exact W _ _ ⟨true,rfl,λh=>(by cases h),rfl⟩
  rw[if_neg z]
  have V:bulk=1048576:=rfl
  refine⟨λy i G=>G=H/\(0<=i/\i<=s.n)/\(0<=y/\y<=i*4000000)/\(y<=400-> ∀r∈s.xs.take i.toNat,r.acts.n<=401/\r.symbols.n<=400),λ_ i _=>(s.n-i).toNat,⟨rfl,⟨by omega,by omega⟩,⟨by omega,by omega⟩,λ_ r h=>by simp at h⟩,?_⟩
  rintro y i A1 ⟨I,F,a3,f⟩
  obtain rfl:H=A1:=I.symm
  by_cases d:i< (s.n:Int)
  case neg=>
    rw[if_neg d]
    rw[List.take_of_length_le (by omega)]at f
    exact W _ _ ⟨_,rfl,λh=>⟨by omega,f (by simpa using h)⟩,rfl⟩
  rw[if_pos d]
  have w:i.toNat<s.xs.length:=by omega
  obtain⟨la,P,g⟩:=A.row i.toNat w
  have x:gO.OK bulk _ s.xs[i.toNat]:=A.each _ (List.getElem_mem w)
  have U:s.xs.take (i+1).toNat=s.xs.take i.toNat++[s.xs[i.toNat]]:=by rw[show(i+1).toNat=i.toNat+1 by omega,List.take_succ_eq_append_getElem w]
  generalize s.xs[i.toNat]=r at*
  have e:=fD g 0 (vs r.acts.p r.acts.n r.acts.c) rfl
  have m:=fD g 1 (vs r.guard.p r.guard.n r.guard.c) rfl
  have o:=fD g 2 (vs r.symbols.p r.symbols.n r.symbols.c) rfl
  rw[Nat.zero_add,lv,Nat.add_zero]at e
  rw[Nat.zero_add]at m o
  have b:SlOK 8 lQ bulk _ r.acts:=x.acts
  have K:=b.len
  have B:=b.le
  have N:=(show SlOK 4 anyR bulk _ r.guard from x.guard).le
  have T:=(show SlOK 2 jv bulk _ r.symbols from x.symbols).le
  rw[V]at B N T
  refine⟨la,P,⟨F.1,d⟩,_,_,_,m,⟨F.1,d⟩,_,_,_,o,?_⟩
  rw[w64 (n:=(r.guard.n:Int)+r.symbols.n) (by omega),w64 (n:=y+((r.guard.n:Int)+r.symbols.n)) (by omega)]
  refine⟨λj k G=>G=H/\(0<=k/\k<=r.acts.n)/\(y+(r.guard.n+r.symbols.n)+k<=j/\j<=y+3000000),λ_ k _=>(r.acts.n-k).toNat,⟨rfl,⟨by omega,by omega⟩,⟨by omega,by omega⟩⟩,?_⟩
  rintro j k A2 ⟨J,hk,Y⟩
  obtain rfl:H=A2:=J.symm
  refine⟨⟨F.1,d⟩,_,_,_,e,?_⟩
  by_cases L:k< (r.acts.n:Int)/\j<=400
  · rw[if_pos (by simpa using L)]
    have D:k.toNat<r.acts.xs.length:=by omega
    obtain⟨ka,O,S⟩:=b.row k.toNat D
    have E:lT.OK bulk _ r.acts.xs[k.toNat]:=b.each _ (List.getElem_mem D)
    generalize r.acts.xs[k.toNat]=a at*
    have u:=fD S 7 (vs a.l.p a.l.n a.l.c) rfl
    rw[Nat.zero_add]at u
    have Q:=(show SlOK 2 jv bulk _ a.l from E.l).le
    rw[V]at Q
    have M:((r.acts.n:Int)-(k+1)).toNat< ((r.acts.n:Int)-k).toNat:=by omega
    refine⟨⟨F.1,d⟩,_,_,_,e,ka,O,⟨hk.1,L.1⟩,_,_,_,u,?_⟩
    rw[jR (by omega),w64 (n:=(a.l.n:Int) / 8) (by omega),w64 (n:=1+(a.l.n:Int) / 8) (by omega),w64 (n:=j+(1+(a.l.n:Int) / 8)) (by omega),w64 (n:=k+1) (by omega)]
    exact⟨⟨rfl,⟨by omega,by omega⟩,⟨by omega,by omega⟩⟩,M⟩
  · rw[if_neg (by simpa using L)]
    have M:((s.n:Int)-(i+1)).toNat< ((s.n:Int)-i).toNat:=by omega
    rw[w64 (n:=i+1) (by omega)]
    refine⟨⟨rfl,⟨by omega,by omega⟩,⟨by omega,by omega⟩,λh4 q Z=>?_⟩,M⟩
    rw[U]at Z
    rcases List.mem_append.1 Z with t | t
    · exact f (by omega) q t
    · simp at t;subst t;exact⟨by omega,by omega⟩
structure Gs (H0 H:zV) (b:Blk) (x:Hp) (sz:Int->Nat) (mB:zW) (mC:Nat) (made:List Int) (sB:zW) (sC:Nat) (syl:List Int):Prop where
  e:Ext H0 H
  hp:HpAt H b x
  inv:Inv x.sp sz
  snd:Snd x.sp.mem sz
  nowk:NoWk x.sp.mem
  own:Own H 40 1 mB made.length mC (wvs made)
  good: ∀w∈made,aG w/\Good x.sp.mem sz w/\FW w
  sy:x.sy=vs sB syl.length sC
  so:Own H 40 1 sB syl.length sC (wvs syl)
  sgood: ∀w∈syl,aG w/\Good x.sp.mem sz w/\FW w
  en:x.en=VN
  hb: ∀j∈b.all,H0.size<=j
  hm: ∀j∈blks mB,H0.size<=j/\j ∉ b.all
  hs: ∀j∈blks sB,H0.size<=j/\j ∉ b.all/\j ∉ blks mB
theorem Gs.ext{H0 H c:zV}{b:Blk}{d:Nat}(h:Gs H0 H b j k r a o u d q)(e:Ext H c):Gs H0 c b j k r a o u d q:=
  ⟨h.e.trans e,h.hp.ext e,h.inv,h.snd,h.nowk,h.own.ext e,h.good,h.sy,h.so.ext e,h.sgood,h.en,h.hb,h.hm,h.hs⟩
theorem Gs.view{c:Blk}(h:Gs H i c j k r a o u b q):View i (some ⟨c.h,0,none⟩) (some (c,j)):=.real h.hp h.inv.ok
structure kv (H:zV) (c:Nat) (r:gO):Prop where
  at':H[c]?=some (.cells #[vs r.acts.p r.acts.n r.acts.c,vs r.guard.p r.guard.n r.guard.c,vs r.symbols.p r.symbols.n r.symbols.c,vi r.g,vi r.target,.int .u32 r.keep] 53 (0,0))
theorem kv.ext{c:Nat}(h:kv H c d)(e:Ext H i):kv i c d:=⟨e.get h.at'⟩
theorem kv.keep{S:List Nat}(h:kv H a d)(f:Fr S H i)(b:a ∉ S):kv i a d:=⟨f.get b h.at'⟩
set_option maxRecDepth 100000 in
theorem sL{Q:zW->Nat->Nat->zV->Prop}{bi:Blk}{sC c:Nat}(h:Gs H i bi j k r a o u sC q)(b8:j.sp.cf<=100000)(hn:b=o.length)(ba:o.length<=10000)
    (hs:kv i c d) (hc:c ∉ bi.all/\c ∉ blks r/\c ∉ blks u) (hA:SlOK 8 lQ maxLen H d.acts) (b1:d.acts.n<=401) (az: ∀bh∈d.acts.xs,bh.dov≠1)
    (hQ: ∀(A:zV) (x:zW) (D:Nat) (f:List Int) (N:Hp) (E:Int->Nat),Gs H A bi N E x D f u sC q->N.sp.cf=j.sp.cf->f.length<=o.length+401->kv A c d->c ∉ blks x->i.size<=A.size->Q x f.length D A):
    ∃(a0:zW->Nat->Nat->zw) (ae:zW->Nat->Nat->Int->zV->Nat),a0 r b a 0 i/\ ∀(g:zW) (v:Nat) (l:Nat) (bk:Int) (y:zV),a0 g v l bk y->
    ∃xB:zW,∃xN:Nat,∃xC:Nat,hat y (Addr.mk c 0 none)=some (vs xB xN xC)/\
    if bk< (xN:Int)then(
     ∃V:zW,∃W:Nat,∃ah:Nat,hat y (Addr.mk c 0 none)=some (vs V W ah)/\
     ∃U:Addr,V=some U/\
     ((0:Int)<=bk/\bk< (W:Int))/\
     ∃ai:Int,∃L:Int,∃X:Int,∃am:Int,∃Y:Int,∃an:Int,∃Z:Int,∃aj:zW,∃al:Nat,∃ak:Nat,aQ y (U.add (Int.toNat bk*8)) 0 [vi ai,vi L,vi X,vu am,vi Y,vu an,vi Z,vs aj al ak]/\
     dF.C (some ⟨bi.h,0,none⟩) ai L X am Y an Z aj al ak g v l y (λaT a9=> ∃I:zW,∃M:Nat,∃J:Nat,aT=vs I M J/\
      (a0 I M J (IntKind.wrap .i64 (bk+1)) a9/\ae I M J (IntKind.wrap .i64 (bk+1)) a9<ae g v l bk y)))
    else
    Q g v l y:=by
  have ax:=hA.len
  refine⟨λx af D bk A=>(0<=bk/\bk<=d.acts.n)/\ ∃(f:List Int) (N:Hp) (E:Int->Nat),af=f.length/\Gs H A bi N E x D f u sC q/\N.sp.cf=j.sp.cf/\(f.length:Int)<=o.length+bk/\kv A c d/\c ∉ blks x/\i.size<=A.size,λ_ _ _ bk _=>(d.acts.n-bk).toNat,
    ⟨⟨by omega,by omega⟩,o,j,k,hn,h,rfl,by omega,hs,hc.2.1,Nat.le_refl _⟩,?_⟩
  rintro x af D bk A ⟨hk,f,N,E,rfl,S,aa,b2,O,a2,aw⟩
  have R:hat A (Addr.mk c 0 none)=some (vs d.acts.p d.acts.n d.acts.c):=by rw[aP O.at'];rfl
  refine⟨_,_,_,R,?_⟩
  by_cases a5:bk< (d.acts.n:Int)
  case neg=>
    rw[if_neg a5]
    exact hQ A x D f N E S aa (by omega) O a2 aw
  rw[if_pos a5]
  have a3:bk.toNat<d.acts.xs.length:=by omega
  obtain⟨ka,aB,aN⟩:=hA.row bk.toNat a3
  have aC:lT.OK maxLen H d.acts.xs[bk.toNat]:=hA.each _ (List.getElem_mem a3)
  have ay:=az _ (List.getElem_mem a3)
  generalize d.acts.xs[bk.toNat]=bh at*
  refine⟨_,_,_,R,ka,aB,⟨hk.1,a5⟩,_,_,_,_,_,_,_,_,_,_,S.e.rowAt aN,?_⟩
  have hd:((d.acts.n:Int)-(bk+1)).toNat< ((d.acts.n:Int)-bk).toNat:=by omega
  rw[w64 (n:=bk+1) (by omega)]
  refine HC.mono (uy S.view S.inv (by omega) S.own (λbj z=>(S.hm bj z).2) (λw B=>⟨(S.good w B).1,(S.good w B).2.1⟩) (by omega) (lQ.mono S.e aC)) ?_
  rintro _ A2 ⟨B',c',a6,x2,ag,rfl,T,K,hF,hL⟩
  have ab: ∀bj∈bi.all,bj<A.size:=λbj z=>S.hp.lt bj z
  have F: ∀bj,bj∈[bi.sp,bi.m,bi.s]->bj∈bi.all:=λbj bl=>by simp at bl;simp[Blk.all];omega
  obtain⟨-,ac,-⟩:=T.view.inv
  have a1:A2[bi.h]?=A[bi.h]?:=by
    rw[S.hp.h]
    refine T.fr.get (λbl=>?_) S.hp.h
    rcases List.mem_append.1 bl with bl | bl
    · have:=S.hp.ne
      have:=S.hp.cd.sp.ne
      simp at bl;omega
    · exact(S.hm _ bl).2 (by simp[Blk.all])
  have G:x2.sy=N.sy/\x2.en=N.en:=by
    have h1:=ac.h
    rw[a1,S.hp.h]at h1
    simp only[Option.some.injEq,Obj.cells.injEq,Array.mk.injEq,List.cons.injEq]at h1
    exact⟨h1.1.2.1.symm,h1.1.2.2.1.symm⟩
  have a7: ∀w∈f,FW w:=λw B=>(S.good w B).2.2
  have a8:=hF a7
  have a4: ∀w,Good N.sp.mem E w->Good x2.sp.mem ag w:=λw B=>hL w B
  have P:Own A2 40 1 u q.length sC (wvs q):=S.so.keep T.fr (λbj z bl=>by
    rcases List.mem_append.1 bl with bl | bl
    · exact(S.hs bj z).2.1 (F bj bl)
    · exact(S.hs bj z).2.2 bl)
  refine⟨_,_,_,rfl,⟨⟨by omega,by omega⟩,a6,x2,ag,rfl,⟨?_,ac,T.inv,K.snd a7 S.snd,K.nowk ay S.nowk,T.own,λw B=>⟨(T.good w B).1,(T.good w B).2,a8 w B⟩,G.1.trans S.sy,P,λw B=>⟨(S.sgood w B).1,a4 w (S.sgood w B).2.1,(S.sgood w B).2.2⟩,G.2.trans S.en,S.hb,λbj z=>?_,λbj z=>⟨(S.hs bj z).1,(S.hs bj z).2.1,λbl=>?_⟩⟩,T.cf.trans aa,?_,O.keep T.fr (λbl=>?_),λbl=>?_,by have:=T.fr.size;omega⟩,hd⟩
  · refine S.e.fr_trans T.fr (λbj z=>?_)
    rcases List.mem_append.1 z with bl | bl
    · exact S.hb bj (F bj bl)
    · exact(S.hm bj bl).1
  · rcases T.blk bj z with bl | bl
    · exact S.hm bj bl
    · have:=S.e.size
      exact⟨by omega,λhb=>by have:=ab bj hb;omega⟩
  · rcases T.blk bj bl with t | t
    · exact(S.hs bj z).2.2 t
    · have:=S.so.lt bj z;omega
  · have:=T.len;omega
  · rcases List.mem_append.1 bl with bl | bl
    · exact hc.1 (F c bl)
    · exact a2 bl
  · rcases T.blk c bl with t | t
    · exact a2 t
    · have:=aW O.at';omega
end Go.Proofs.YtojbbgcjiaphjaaGreat
namespace Go.Proofs.YtojbbgcjiaphjaaGreat
open Go
variable{a:Mem}{b:Tr}
theorem rK{α β:Type}{l:List α}{g:α->β}(h:l.Nodup)(i: ∀a∈l,∀b∈l,g a=g b->a=b):(l.map g).Nodup:=by
 unfold List.Nodup at*
 rw[List.pairwise_map]
 exact List.Pairwise.imp_of_mem (λd f c e=>c (i _ d _ f e)) h
section
variable {Z:TZ} {g F0:Int} {fw:Int->Option Int} {al:List Int} {s:Sp} {sz:Int->Nat}
def GW(Z:TZ)(fw:Int->Option Int)(v:Int):Prop:=aG v/\Good Z.m Z.sz v/\Dn Z.O fw v
theorem eZ.at'{B:Sp}(t:eZ Z g F0 fw al sz b s B a)(A:bJ a){w:Int}(z:GW Z fw w)(r:cE w): ∀i:Nat,i<Z.sz (w / 8)->Was Z fw (Fw Z.O fw w / 8+i) (Z.m.get (w / 8+i))/\a.used (Fw Z.O fw w / 8+i)/\s.mem.kAt (Fw Z.O fw w / 8+i)=Z.m.kAt (w / 8)/\Z.m.used (w / 8+i)/\Z.m.kAt (w / 8+i)=Z.m.kAt (w / 8):=by
 intro i j
 obtain⟨D,x,v⟩:=z
 obtain⟨E,y,F⟩:=t.good D x v
 obtain⟨G,u,C,H⟩:=y r
 have S:=t.S
 have f:=(x.2 r).1
 have d:=S.sound.usedAt f j (λk=>(S.ok.seg k).n.2)
 have o:Z.m.kAt (w / 8+i)=Z.m.kAt (w / 8):=by unfold Mem.kAt;rw[d.2.1]
 have h:szE Z.O sz (Fw Z.O fw w / 8)≠0:=by rw[u];exact f
 have e: ∀k,(a.seg k).n<=64:=λk=>(A.seg k).n.2
 have c:=t.sound.usedAt h (by rw[u];exact j) e
 have l:=(t.kind c.1).1
 have m:a.kAt (Fw Z.O fw w / 8+i)=Z.m.kAt (w / 8):=by rw[<-C];unfold Mem.kAt;rw[c.2.1]
 refine⟨?_,c.1,by rw[<-l,m],d.1,o⟩
 by_cases p:aV Z.O w
 ·obtain⟨I,q⟩:=v p
  rw[kf p q,show(I*8+w % 8) / 8=I by omega]
  exact .inr ⟨w / 8,I,i,q,j,rfl,rfl⟩
 ·rw[kA p]at c⊢
  exact .inl ⟨d.1,(t.used.1 c.1).2,rfl⟩
theorem eZ.gw_at{q:Sp}(t:eZ Z g F0 fw al sz b s q a)(p:bJ a){w:Int}(o:GW Z fw w)(n:cE w){i:Nat}(l:i<Z.sz (w / 8))(f:Z.m.kAt (w / 8)≠3)(m: ¬(Z.m.kAt (w / 8)=1/\(Fw Z.O fw w / 8+i) % 2=0)):GW Z fw (Z.m.get (w / 8+i))/\a.get (Fw Z.O fw w / 8+i)=Fw Z.O fw (Z.m.get (w / 8+i)):=by
 obtain⟨h,r,e,j,k⟩:=t.at' p o n i l
 have hk:s.mem.kAt (Fw Z.O fw w / 8+i)≠3:=by rw[e];exact f
 rcases t.get h with⟨c,d⟩ | ⟨_,c,d⟩
 ·rw[if_neg hk]at c
  exact⟨⟨(t.S.ok.seg _).words _,t.S.sound.good _ j (by rw[k];exact f),d hk⟩,c⟩
 ·exact absurd ⟨by rw[<-e];exact c,d⟩ m
theorem GW.old{v:Int}(h:GW Z fw v): ∀_:cE v,Z.sz (v / 8)≠0/\v % 8=tagK (Z.m.kAt (v / 8)):=h.2.1.2
theorem eZ.inj{A:Sp}(t:eZ Z g F0 fw al sz b s A a){v i:Int}(h:GW Z fw v)(f:GW Z fw i)(e:Fw Z.O fw v=Fw Z.O fw i):v=i:=by
 have S:=t.S
 have y:=(t.good h.1 h.2.1 h.2.2).2.2
 have z:=(t.good f.1 f.2.1 f.2.2).2.2
 have m:v % 8=i % 8:=by rw[<-y,<-z,e]
 have key: ∀{u d:Int},GW Z fw u->GW Z fw d->aV Z.O u-> ¬aV Z.O d->u % 8=d % 8->Fw Z.O fw u≠Fw Z.O fw d:=λ{u d} q n o c m e=>by
  obtain⟨C,j⟩:=q.2.2 o
  have x:=(t.tri.img _ _ j).2
  have B:=(S.oldWord q.2.1 o).1
  have l:=x.new 0 (by omega)
  rw[kf o j,kA c]at e
  have w:cE d:=by have:=ua o;unfold cE at*;omega
  have p:=(S.sound.used _ (n.2.1.2 w).1).1
  apply l
  rw[show C+((0:Nat):Int)=d / 8 by omega];exact p
 by_cases o:aV Z.O v
 ·by_cases c:aV Z.O i
  ·obtain⟨C,j⟩:=h.2.2 o
   obtain⟨r,k⟩:=f.2.2 c
   rw[kf o j,kf c k]at e
   have:C=r:=by omega
   subst this
   have:=t.tri.inj _ _ _ j k
   omega
  ·exact absurd e (key h f o c m)
 ·by_cases c:aV Z.O i
  ·exact absurd e.symm (key f h c o m.symm)
  ·rw[kA o,kA c]at e;exact e
end
end Go.Proofs.YtojbbgcjiaphjaaGreat
namespace Go.Proofs.YtojbbgcjiaphjaaGreat
open Go
variable{a d:List Int}{b r:Nat}{H u:zV}{i j k A B:Int}{o:List Nat}{q:zW}{v:Blk}{z:Hp}{C:Mem}
theorem vK(m:Mem)(L:List Int)(w:Int):L.length<=(addW m L w).length:=by
 unfold addW
 split
 ·simp
 ·exact Nat.le_refl _
theorem qY(m:Mem): ∀(vs L:List Int),L.length<=(vs.foldl (addW m) L).length
 | [],_=>Nat.le_refl _
 | w::vs,L=>Nat.le_trans (vK m L w) (qY m vs _)
theorem rL(m:Mem)(h:a.length<=b):iF m a b=a:=by
 unfold iF;rw[List.getElem?_eq_none h]
theorem mo(m:Mem)(a:List Int){k:Nat}(h:(bD m a k).length<=k): ∀d,bD m a (k+d)=bD m a k
 | 0=>rfl
 | d+1=>by
  have b:=mo m a h d
  show iF m (bD m a (k+d)) (k+d)=_
  rw[b,rL _ (by omega)]
theorem mp(m:Mem)(a:List Int){j k:Nat}(b:(bD m a j).length<=j)(hk:(bD m a k).length<=k):bD m a j=bD m a k:=by
 rcases Nat.le_total j k with h | h
 ·have:=mo m a b (k-j)
  rw[show j+(k-j)=k by omega]at this
  exact this.symm
 ·have:=mo m a hk (j-k)
  rw[show k+(j-k)=j by omega]at this
  exact this
structure Came (m:Mem) (roots:List Int) (A:zV) (B:zW) (c mr:Nat) (L:List Int):Prop where
 all: ∃k,L=bD m roots k/\L.length=k
 own:Own A 40 1 B L.length c (wvs L)
 map: ∃(es:Array MapEntry) (cl:Nat) (ks:List (Int×Value)),A[mr]?=some (.map es cl)/\Ents (bF .u64) es.toList ks/\ ∀w,mget ks w=if w∈L then some (vi (L.idxOf w+1:Nat))else none
 nod:L.Nodup
 pos: ∀w∈L,m.sizeOf w>0/\aG w
 len:L.length<=524288
theorem Came.keep{S:List Nat}(h:Came C a H q b r d)(f:Fr S H u)(l: ∀j∈blks q,j ∉ S)(hm:r ∉ S):Came C a u q b r d:=by
 obtain⟨e,c,m,g,i,k⟩:=h.map
 exact⟨h.all,h.own.keep f l,⟨e,c,m,f.get hm g,i,k⟩,h.nod,h.pos,h.len⟩
theorem Came.ext{roots:List Int}{c b:Nat}(h:Came C roots H q c b a)(e:Ext H u):Came C roots u q c b a:=h.keep (S:=[]) e.fr (by simp) (by simp)
set_option maxRecDepth 100000 in
set_option maxHeartbeats 2000000 in
theorem vL(hp:HpAt H v z)(ok:SpOK z.sp)(hr:Nums H .u64 q b a)(bs:b<=1000000)(bu: ∀w∈a,aG w)(br: ∀j∈blks q,j<H.size):
  jw.C (some ⟨v.h,0,none⟩) q b r H (λdk g=> ∃(B:zW) (c d:Nat) (L:List Int),dk=.tuple #[vs B L.length c,.map (some d)]/\Came z.sp.mem a g B c d L/\(∀j∈blks B,H.size<=j)/\H.size<=d/\Ext H g):=by
 refine HC.via λR hR=>jw.link ?_
 unfold jw.pt zY
 intro p H1 bj W d H2 bn X V H3 am Y
 have hb:=hp.lt
 have e1:Ext H H1:=Ext.push' W
 have e2:Ext H1 H2:=Ext.push' X
 have z1:H1.size=H.size+1:=by rw[W];simp
 have z2:H2.size=H1.size+1:=by rw[X];simp
 have z3:H3.size=H2.size+1:=by rw[Y];simp
 have g0:=aH bj W
 have gm:=aH bn X
 obtain⟨c3,s3⟩:=gU (A3:=aR H3 (Addr.mk V 0 none) [.map (some d)] 0) am Y [.map (some d)] rfl
 refine⟨c3,λH4 ah f H5 bk Z F H6 an a0=>?_⟩
 obtain⟨g3,e4⟩:=s3 rfl
 rw[<-ah]at g3 e4
 have z4:H4.size=H3.size:=by rw[ah,cH _ _ _ _ _ (aH am Y)];simp
 have e5:Ext H4 H5:=Ext.push' Z
 have z5:H5.size=H4.size+1:=by rw[Z];simp
 have z6:H6.size=H5.size+1:=by rw[a0];simp
 have g4:=aH bk Z
 obtain⟨c6,s6⟩:=gU (A3:=aR H6 (Addr.mk F 0 none) [.func (.func 93) #[] #[Vq (Addr.mk p 0 none),Vq (Addr.mk V 0 none),Vq (Addr.mk f 0 none)]] 0) an a0 [.func (.func 93) #[] #[Vq (Addr.mk p 0 none),Vq (Addr.mk V 0 none),Vq (Addr.mk f 0 none)]] rfl
 refine⟨c6,λe ai=>?_⟩
 obtain⟨g5,e7⟩:=s6 rfl
 rw[<-ai]at g5 e7
 have z7:e.size=H6.size:=by rw[ai,cH _ _ _ _ _ (aH an a0)];simp
 have a6:=e4.trans (e5.trans e7)
 have a5:=e2.trans a6
 have E7:=e1.trans a5
 have k0:=a5.get g0
 have k3:=(e5.trans e7).get g3
 have k4:=e7.get g4
 have km:=a6.get gm
 have C0:CmAt z.sp.mem e V f d e.size [] []:=⟨k3,⟨#[],0,[],km,rfl,λw=>by rw[if_neg (by simp)];rfl⟩,⟨none,0,k4,iY,rfl,by simp⟩,⟨⟨by omega,by omega,by omega⟩,by omega,by omega,by omega⟩,List.nodup_nil,by simp⟩
 have m:p<e.size/\F<e.size/\e.size<=e.size/\f ∉ v.all/\d ∉ v.all/\f≠p/\f≠F/\d≠p/\d≠F:=
  ⟨by omega,by omega,Nat.le_refl _,λh=>by have:=hb _ h;omega,λh=>by have:=hb _ h;omega,by omega,by omega,by omega,by omega⟩
 refine uD (hp.ext E7) ok (λj l=>by have:=hb j l;omega) k0 g5 m C0 (hr.ext E7) bs (λj l=>by have:=br j l;omega) bu ?_
 intro H8 T8 C8 cA f8 bP S ao x
 have z8:=f8.size
 have d0:S.size=H8.size+1:=by rw[x];simp
 obtain⟨bb,bC⟩:=gU (A3:=aR S (Addr.mk bP 0 none) [vi 0] 0) ao x [vi 0] rfl
 refine⟨bb,λb3 M=>?_⟩
 obtain⟨g6,s⟩:=bC rfl
 rw[<-M]at g6 s
 have d1:b3.size=S.size:=by rw[M,cH _ _ _ _ _ (aH ao x)];simp
 have E8:Ext H H8:=E7.fr_trans f8 (λi I=>by simp at I;omega)
 have n0:p ∉ [f,d]:=by simp;omega
 have n5:F ∉ [f,d]:=by simp;omega
 refine⟨λi A g=> ∃(k iA:Nat) (L:List Int) (T:List Nat),i=some ⟨iA,0,none⟩/\A.length=k/\g[iA]?=some (.cells #[vi (k:Int)] 3 (0,0))/\e.size<=iA/\L=bD z.sp.mem a k/\CmAt z.sp.mem g V f d e.size L T/\iA ∉ T/\k<=L.length/\A.Nodup/\
   (∀D∈A,g[D]?=some (.deferred (some []))/\D ∉ T/\e.size<=D/\D≠iA)/\Ext H g/\e.size<=g.size/\g[p]?=some (.cells #[vp (some ⟨v.h,0,none⟩)] 28 (0,0))/\
   g[F]?=some (.cells #[.func (.func 93) #[] #[Vq (Addr.mk p 0 none),Vq (Addr.mk V 0 none),Vq (Addr.mk f 0 none)]] 165 (0,0)),
  λ_ A _=>600000-A.length,
  ⟨0,bP,_,T8,rfl,rfl,g6,by omega,rfl,C8.ext s,λh=>by have:=(C8.at _ _ h).2;omega,by omega,List.nodup_nil,by simp,E8.trans s,by omega,s.get (f8.get n0 k0),s.get (f8.get n5 g5)⟩,?_⟩
 rintro _ A g ⟨k,iA,L,T,rfl,bo,u,ap,hL,C,au,cB,ax,hD,eA,zA,q0,q5⟩
 refine⟨_,rfl,(k:Int),by rw[aP u];rfl,?_⟩
 have bf:=C.len
 obtain⟨B,c,l1,l2,l3,l4⟩:=C.lst
 refine⟨B,_,c,by rw[aP l1];rfl,?_⟩
 by_cases P:(k:Int)< (L.length:Int)
 case neg=>
  rw[if_neg P]
  refine⟨B,_,c,by rw[aP l1];rfl,some d,by rw[aP C.num];rfl,?_⟩
  have y: ∀D∈A,e.size<=D/\D ∉ T:=λD h=>⟨(hD D h).2.2.1,(hD D h).2.1⟩
  refine nY A g ax (λD h=>(hD D h).1) (λQ E=>hR _ _ ⟨B,c,d,L,rfl,⟨⟨k,hL,by omega⟩,l2.keep E (λj l h=>(y j h).2 (l3▸l)),?_,C.nod,C.pos,bf⟩,λj l=>by have:=(l4 j l).1;omega,by omega,eA.fr_trans E (λi I=>by have:=(y i I).1;omega)⟩)
  obtain⟨es,cl,ks,m1,m2,m3⟩:=C.map
  exact⟨es,cl,ks,E.get (λh=>by have:=(y _ h).1;omega) m1,m2,m3⟩
 rw[if_pos P]
 have J:k<L.length:=by omega
 obtain⟨pa,p1,p2⟩:=lI l2.src J
 refine⟨_,by rw[aP q0];rfl,B,_,c,by rw[aP l1];rfl,(k:Int),by rw[aP u];rfl,pa,p1,⟨by omega,by omega⟩,L[k],by rw[show Int.toNat (k:Int)=k by omega];exact p2,?_⟩
 have bq:=hp.ext eA
 have aw:p<e.size/\F<e.size/\e.size<=g.size/\f ∉ v.all/\d ∉ v.all/\f≠p/\f≠F/\d≠p/\d≠F:=⟨m.1,m.2.1,zA,m.2.2.2⟩
 have al:=C.at
 refine tH bq ok (λj l=>by have:=hb j l;omega) q0 q5 aw C (List.getElem?_eq_getElem J) (C.pos _ (List.getElem_mem J)).2 u ⟨au,ap⟩ ?_
 intro rc lp cn Q T2 C2 cj cC gD aa bg av E bi
 refine⟨aa,λa3 N=>?_⟩
 have f3:Fr [lp] Q a3:=by rw[N];exact Fr.set
 have d2:=E.size
 have d5:a3.size=Q.size:=by rw[N];simp
 have aj: ∀j,j ∉ T->e.size<=j->j ∉ [f,d]++T:=λj h1 h2 h=>by
  rcases List.mem_append.1 h with h | h
  ·simp at h;omega
  ·exact h1 h
 have ak: ∀j,j<e.size->j ∉ T:=λj h h2=>by have:=(al j h2).1;omega
 have bA:g.size<=lp:=by omega
 have a9:=f3.get (by simp;have:=aW u;omega) (E.get (aj _ au ap) u)
 refine⟨_,by rw[aP a9];rfl,λb7 b5 bl ae=>?_⟩
 obtain⟨bc,bE⟩:=gU (A3:=aR b5 (Addr.mk b7 0 none) [vi (k:Int)] 0) bl ae [vi (k:Int)] rfl
 refine⟨bc,λb6 af=>?_⟩
 obtain⟨a7,t⟩:=bE rfl
 rw[<-af]at a7 t
 have K:b6[b7]?=some (.cells #[vi (k:Int)] 3 (0,0)):=a7
 obtain⟨a4,ay⟩:=mX K 0 (vi (IntKind.wrap .i64 ((k:Int)+1))) (by simp)
 rw[nz]at a4 ay
 refine⟨_,by rw[aP K];rfl,a4,λU ag=>?_⟩
 obtain⟨a8,G⟩:=ay U ag
 have d3:=t.size
 have d4:=G.size
 have hw:IntKind.wrap .i64 ((k:Int)+1)=((k+1:Nat):Int):=by rw[w64 (n:=(k:Int)+1) (by omega)];omega
 rw[hw]at a8
 have bm:=aW aa
 have ac:=aW gD
 have O:=C2.at
 have n7: ∀j,j<Q.size->j ∉ [b7]:=λj h=>by simp;omega
 have keep: ∀{j:Nat} {o:Obj},j<Q.size->j≠lp->Q[j]?=some o->U[j]?=some o:=λh1 h2 h3=>G.get (n7 _ h1) (t.get (f3.get (by simp;exact h2) h3))
 have b1:CmAt z.sp.mem U V f d e.size _ T2:=((C2.keep f3 ⟨by simp;omega,by simp;omega,by simp;omega⟩ (λj l=>by simp;exact λdj=>av (dj▸l))).ext t).keep G ⟨by simp;omega,by simp;omega,by simp;omega⟩ (λj l=>n7 j (O j l).2)
 have c9:A.length<600000:=by omega
 refine⟨⟨k+1,b7,_,T2,rfl,by simp[bo],a8,by omega,?_,b1,λh=>by have:=(O _ h).2;omega,?_,?_,?_,?_,by omega,?_,?_⟩,by show 600000-(A.length+1)<600000-A.length;omega⟩
 ·show _=iF z.sp.mem (bD z.sp.mem a k) k
  rw[<-hL];unfold iF;rw[List.getElem?_eq_getElem J]
 ·have:=qY z.sp.mem (visL L[k] (aX z.sp.mem L[k])) L;omega
 ·rw[List.nodup_cons]
  exact⟨λh=>by have:=aW (hD _ h).1;omega,ax⟩
 ·intro D bh
  rcases List.mem_cons.1 bh with h | h
  ·subst h
   exact⟨keep ac (by omega) gD,bg,by omega,by omega⟩
  ·obtain⟨dl,dm,dn,d7⟩:=hD D h
   have dp:=aW dl
   refine⟨keep (by omega) (by omega) (E.get (aj _ dm dn) dl),λh2=>?_,dn,by omega⟩
   rcases bi D h2 with dj | dj
   ·exact dm dj
   ·omega
 ·have a1:Ext H Q:=eA.fr_trans E (λi I=>by
   rcases List.mem_append.1 I with h | h
   ·simp at h;omega
   ·have:=(al i h).1;omega)
  exact((a1.fr_trans f3 (λi I=>by simp at I;have:=eA.size;omega)).trans t).fr_trans G (λi I=>by simp at I;have:=a1.size;omega)
 ·exact keep (by omega) (by omega) (E.get (λh=>by
   rcases List.mem_append.1 h with h | h
   ·exact n0 h
   ·exact ak _ m.1 h) q0)
 ·exact keep (by omega) (by omega) (E.get (λh=>by
   rcases List.mem_append.1 h with h | h
   ·exact n5 h
   ·exact ak _ m.2.1 h) q5)
def ko(m:Mem)(L:List Int):Int:=(L.map m.sizeOf).sum
theorem qZ(m:Mem): ∀L:List Int,0<=ko m L/\ko m L<=63*L.length
  | []=>by unfold ko;simp
  | w::L=>by
    have a:=ku m w
    have b:=qZ m L
    unfold ko at*
    simp only[List.map_cons,List.sum_cons,List.length_cons]
    omega
theorem tL(m:Mem)(h:b<a.length):ko m (a.take (b+1))=ko m (a.take b)+m.sizeOf a[b]:=by
  unfold ko
  rw[List.take_succ_eq_append_getElem h,List.map_append,List.sum_append];simp
set_option maxRecDepth 100000 in
theorem vM{roots:List Int}(t:HpAt H v z)(u:SpOK z.sp)(F:Nums H .u64 q b roots)(l:b<=1000000)(m: ∀w∈roots,aG w)(g: ∀j∈blks q,j<H.size):
    gQ.C (some ⟨v.h,0,none⟩) q b r H (λT x=> ∃L:List Int,(∃k,L=bD z.sp.mem roots k/\L.length=k)/\T=vi (ko z.sp.mem L)/\Ext H x):=by
  refine HC.via λR D=>gQ.link ?_
  unfold gQ.pt zY
  refine HC.mono (vL t u F l m g) ?_
  rintro _ y ⟨B,c,I,L,rfl,C,P,E,p⟩
  have Q:=C.len
  refine⟨B,_,c,some I,rfl,λo i S=> ∃k:Nat,i=k/\k<=L.length/\o=ko z.sp.mem (L.take k)/\Ext y S,λ_ i _=>((L.length:Int)-i).toNat,⟨0,rfl,by omega,rfl,Ext.refl _⟩,?_⟩
  rintro _ _ M ⟨k,rfl,hk,rfl,f⟩
  by_cases d:(k:Int)< (L.length:Int)
  case neg=>
    rw[if_neg d,List.take_of_length_le (by omega)]
    exact D _ _ ⟨L,C.all,rfl,p.trans f⟩
  rw[if_pos d]
  have a:k<L.length:=by omega
  obtain⟨pa,J,K⟩:=lI (C.own.ext f).src a
  refine⟨pa,J,⟨by omega,d⟩,L[k],by rw[show Int.toNat (k:Int)=k by omega];exact K,?_⟩
  refine HC.mono (kN (.real (t.ext (p.trans f)) u) (C.pos _ (List.getElem_mem a)).2) ?_
  rintro _ N ⟨rfl,A⟩
  have hm:mof (some (v,z))=z.sp.mem:=rfl
  rw[hm]
  have O:=ku z.sp.mem L[k]
  have s:=qZ z.sp.mem (L.take k)
  rw[List.length_take]at s
  have e:min k L.length=k:=by omega
  rw[e]at s
  have G:IntKind.wrap .i64 ((k:Int)+1)=((k+1:Nat):Int):=by rw[w64 (n:=(k:Int)+1) (by omega)];omega
  refine⟨_,rfl,?_⟩
  rw[G,w64 (n:=ko z.sp.mem (L.take k)+z.sp.mem.sizeOf L[k]) (by omega)]
  exact⟨⟨k+1,rfl,by omega,(tL _ a).symm,f.trans A⟩,by show((L.length:Int)-((k+1:Nat):Int)).toNat< ((L.length:Int)-(k:Int)).toNat;omega⟩
def KnAt(A:zV)(nb:Nat)(tag typ more:Int)(ws is:List Int)(T:List Nat):Prop:=
  ∃(B1:zW) (c1:Nat) (B2:zW) (c2:Nat),A[nb]?=some (.cells #[vi tag,vi typ,vu more,vs B1 ws.length c1,vs B2 is.length c2] 61 (0,0))/\
    Own A 40 1 B1 ws.length c1 (wvs ws)/\Own A 3 1 B2 is.length c2 (ivs is)/\(∀j∈blks B1,j ∉ blks B2)/\T=blks B1++blks B2/\nb ∉ T
theorem KnAt.keep{S:List Nat}(h:KnAt H b i k A a d o)(f:Fr S H u)(p:b ∉ S)(e: ∀j∈o,j ∉ S):KnAt u b i k A a d o:=by
  obtain⟨g,m,l,n,q,r,s,t,rfl,v⟩:=h
  exact⟨g,m,l,n,f.get p q,r.keep f (λj c=>e j (List.mem_append_left _ c)),s.keep f (λj c=>e j (List.mem_append_right _ c)),t,rfl,v⟩
theorem KnAt.ext{ws is:List Int}(h:KnAt H b i j k ws is o)(e:Ext H u):KnAt u b i j k ws is o:=h.keep (S:=[]) e.fr (by simp) (by simp)
theorem KnAt.lt(h:KnAt H b i k A a d o): ∀j∈b::o,j<H.size:=by
  obtain⟨l,n,m,p,e,f,g,q,rfl,r⟩:=h
  intro j c
  rcases List.mem_cons.1 c with h | h
  · rw[h];exact aW e
  · rcases List.mem_append.1 h with h | h
    · exact f.lt j h
    · exact g.lt j h
theorem oT: ∀l:List Int,kr (ivs l)=true
  | []=>rfl
  | w::l=>by show(true && kr (ivs l))=true;rw[oT l];rfl
set_option maxRecDepth 100000 in
theorem sM{R:zv}(K:KnAt H b i j k a d o)(hl:a.length<=100000000/\d.length<=100000000)
    (hR: ∀U T',KnAt U b i j k (a++[A]) (d++[B]) T'->Fr (b::o) H U->(∀bd∈T',bd∈o\/H.size<=bd)->R (.tuple #[]) U):
    ∃f:Addr,some (Addr.mk b 0 none)=some f/\
    ∃xB:zW,∃xN:Nat,∃xC:Nat,hat H (f.add 3)=some (vs xB xN xC)/\
    ∀(bc:Nat) (G:zV),bc=H.size->G=H.push (.cells #[vu A] 40)->
    bR 1 40 8 [vu 0] xB xN xC (some (Addr.mk bc 0 none)) 1 G (λap W I=>
     (aK I (f.add 3) 0 1)/\ ∀m:zV,m=aR I (f.add 3) [vs ap (xN+1) W] 0->
     ∃p:zW,∃g:Nat,∃s:Nat,hat m (f.add 4)=some (vs p g s)/\
     ∀(L:Nat) (n:zV),L=m.size->n=m.push (.cells #[vi B] 3)->
     bR 1 3 8 [vi 0] p g s (some (Addr.mk L 0 none)) 1 n (λJ t V=>
      (aK V (f.add 4) 0 1)/\ ∀D:zV,D=aR V (f.add 4) [vs J (g+1) t] 0->
      R (.tuple #[]) D)):=by
  obtain⟨z,c1,C,c2,k1,k2,k3,k4,rfl,k6⟩:=K
  have M:b ∉ blks z:=λh=>k6 (List.mem_append_left _ h)
  have x:b ∉ blks C:=λh=>k6 (List.mem_append_right _ h)
  have l1:=k2.lt
  have l2:=k3.lt
  have ay:=aW k1
  refine⟨_,rfl,z,_,c1,eO k1 3,λbc G hb u=>?_⟩
  have O:Ext H G:=Ext.push' u
  have z1:G.size=H.size+1:=by rw[u];simp
  refine dD (ys:=wvs [A]) (k2.ext O) (dV (aH hb u) _ 0 0 (λbd c=>by simp at c;subst c;rfl)) rfl (gT _) rfl (by omega) ?_
  intro E d1 I o2 Q n2
  have z2:=Q.size
  obtain⟨q3,s3⟩:=mX (Q.get M (O.get k1)) 3 (vs E (a.length+1) d1) (by simp)
  refine⟨q3,λm Z=>?_⟩
  obtain⟨g3,S⟩:=s3 m Z
  have z3:=S.size
  have l: ∀bd∈blks E,bd∈blks z\/H.size<bd:=λbd c=>by
    rcases n2 bd c with h | h
    · exact .inl h
    · right;omega
  have y:b ∉ blks E:=λh=>by
    rcases l _ h with h | h
    · exact M h
    · omega
  have o3:=o2.keep S (λbd c h=>by simp at h;exact y (h▸c))
  have a3:=((k3.ext O).keep Q (λbd c h=>k4 bd h c)).keep S (λbd c h=>by simp at h;exact x (h▸c))
  refine⟨C,_,c2,eO g3 4,λb2 n a1 v=>?_⟩
  have P:Ext m n:=Ext.push' v
  have z4:n.size=m.size+1:=by rw[v];simp
  refine dD (ys:=ivs [B]) (a3.ext P) (dV (aH a1 v) _ 0 0 (λbd c=>by simp[ivs]at c;subst c;rfl)) rfl (oT _) rfl (by omega) ?_
  intro F d2 V o5 T n5
  have z5:=T.size
  obtain⟨q6,s6⟩:=mX (T.get x (P.get g3)) 4 (vs F (d.length+1) d2) (by simp)
  refine⟨q6,λD a0=>?_⟩
  obtain⟨g6,Y⟩:=s6 D a0
  have w: ∀bd∈blks F,bd∈blks C\/n.size<=bd:=n5
  have N:b ∉ blks F:=λh=>by
    rcases w _ h with h | h
    · exact x h
    · omega
  have a5:=o3.lt
  have X: ∀bd∈blks E,bd ∉ blks F:=λbd h1 h2=>by
    rcases w bd h2 with q | q
    · rcases l bd h1 with r | r
      · exact k4 bd r q
      · have:=l2 bd q;omega
    · have:=a5 bd h1;omega
  have o6:=o5.keep Y (λbd c h=>by simp at h;exact N (h▸c))
  have o1:=((o3.ext P).keep T (λbd c h=>by
    rcases l bd c with r | r
    · exact k4 bd r h
    · have:=l2 bd h;omega)).keep Y (λbd c h=>by simp at h;exact y (h▸c))
  refine hR D (blks E++blks F) ⟨E,d1,F,d2,?_,?_,?_,X,rfl,λh=>?_⟩ ?_ (λbd c=>?_)
  · rw[List.length_append,List.length_append];exact g6
  · have e:wvs (a++[A])=wvs a++wvs [A]:=by unfold wvs;rw[List.map_append]
    rw[e,List.length_append];exact o1
  · have e:ivs (d++[B])=ivs d++ivs [B]:=by unfold ivs;rw[List.map_append]
    rw[e,List.length_append];exact o6
  · rcases List.mem_append.1 h with h | h
    · exact y h
    · exact N h
  · have ak:Fr (b::(blks z++blks C)) H I:=O.fr.trans (Q.mono (λbd c _=>by simp[c]))
    have a2:Fr (b::(blks z++blks C)) I n:=(S.mono (λbd c _=>by simp at c;simp[c])).trans P.fr
    have am:Fr (b::(blks z++blks C)) n D:=(T.mono (λbd c _=>by simp[c])).trans (Y.mono (λbd c _=>by simp at c;simp[c]))
    exact(ak.trans a2).trans am
  · rcases List.mem_append.1 c with h | h
    · rcases l bd h with r | r
      · exact .inl (List.mem_append_left _ r)
      · right;omega
    · rcases w bd h with r | r
      · exact .inl (List.mem_append_right _ r)
      · right;omega
def putW(w i:Int):Int:=if i=0 then w else 0
theorem vN(K:KnAt H b i j k a d o)(p:a.length<=100000000/\d.length<=100000000):
    bA.C (some ⟨b,0,none⟩) A B H (λv f=> ∃c,KnAt f b i j k (a++[putW A B]) (d++[B]) c/\Fr (b::o) H f/\ ∀q∈c,q∈o\/H.size<=q):=by
  refine HC.via λR g=>bA.link ?_
  unfold bA.pt
  by_cases h:B=0
  · rw[if_pos h]
    have e:putW A B=A:=if_pos h
    rw[e]at g
    exact sM K p (λf c l m n=>g _ _ ⟨c,l,m,n⟩)
  · rw[if_neg h]
    have e:putW A B=0:=if_neg h
    rw[e]at g
    exact sM K p (λf c l m n=>g _ _ ⟨c,l,m,n⟩)
def numOf(L:List Int)(w:Int):Int:=if w∈L then((L.idxOf w+1:Nat):Int)else 0
def isF(m:Mem)(L:List Int)(w:Int)(p:Int×Int):Int:=if numOf L p.2=0/\w % 8=2/\p.1=aOf w/\m.sizeOf p.2>0 then-1 else numOf L p.2
def mR(m:Mem)(L:List Int)(w:Int)(p:Int×Int):Int:=putW p.2 (isF m L w p)
theorem Came.num(j:Came C a H q b r d)(v:Int):
    ∃(c:Array MapEntry) (f:Nat) (e:List (Int×Value)),H[r]?=some (.map c f)/\Ents (bF .u64) c.toList e/\ ∃x:Int,(mget e v).getD (vi 0)=vi x/\x=numOf d v:=by
  obtain⟨c,f,e,g,h,i⟩:=j.map
  refine⟨c,f,e,g,h,numOf d v,?_,rfl⟩
  rw[i v]
  unfold numOf
  split<;>rfl
theorem wQ{c:zV}{z:Nat}{n:LoopState->Option Code->Obj}{p:List Nat}(A:Fr [b] H u)(D:u.size=H.size)(t:b ∉ o/\b≠r/\b<H.size)(q:u[b]?=some (n .busy none))(E:z<=H.size)(B: ∀I∈o,z<=I)
    (K2:KnAt c r i j k a d p) (v:Fr (r::o) u c) (f: ∀I∈p,I∈o\/u.size<=I):
    c[b]?=some (n .busy none)/\ ∃s:List Nat,((aO c b (n .ready none))[b]?=some (n .ready none)/\KnAt (aO c b (n .ready none)) r i j k a d s/\ ∀I∈s,z<=I)/\
      Fr ([b,r]++o) H (aO c b (n .ready none))/\ ∀I∈s,I∈o\/H.size<=I:=by
  obtain⟨x,C,F⟩:=t
  have y:=v.get (by simp;exact⟨C,x⟩) q
  have w:Fr [b] c (aO c b (n .ready none)):=Fr.set
  have g: ∀I∈p,I≠b:=λI m e=>by
    rcases f I m with h | h
    · exact x (e▸h)
    · omega
  refine⟨y,p,⟨aY (aW y),K2.keep w (by simp;omega) (λI m=>by simp;exact g I m),λI m=>?_⟩,?_,λI m=>?_⟩
  · rcases f I m with h | h
    · exact B I h
    · omega
  · exact((A.mono (λG l _=>by simp at l;simp[l])).trans (v.mono (λG l _=>by
      rcases List.mem_cons.1 l with h | h<;>simp[h]))).trans (w.mono (λG l _=>by simp at l;simp[l]))
  · rcases f I m with h | h
    · exact .inl h
    · right;omega
set_option maxRecDepth 100000 in
theorem wR{x:Hp}{bh bw b2 r mr b c z:Nat}{E:Int}{ws is:List Int}{l:LoopState->Option Code->Obj}{K:zv}
    (hp:HpAt H v x) (ok:SpOK x.sp) (g0:H[bh]?=some (.cells #[vp (some ⟨v.h,0,none⟩)] 28 (0,0))) (g5:H[bw]?=some (.cells #[vu i] 40 (0,0))) (g2:H[b2]?=some (.cells #[.map (some mr)] 100 (0,0)))
    (C:Came x.sp.mem a H q c mr d) (hw:aG i) (hv:aG k) (Kn:KnAt H r A B E ws is o) (ay:ws.length<=1000/\is.length<=1000) (ql:H[b]?=some (l .ready none))
    (hl:b ∉ v.all/\b ∉ o/\b≠bh/\b≠bw/\b≠b2/\b≠r/\b≠mr/\b ∉ blks q) (hz:z<=H.size) (hU: ∀bs∈o,z<=bs)
    (hK: ∀A',(∃T':List Nat,(A'[b]?=some (l .ready none)/\KnAt A' r A B E (ws++[mR x.sp.mem d i (j,k)]) (is++[isF x.sp.mem d i (j,k)]) T'/\ ∀bs∈T',z<=bs)/\Fr ([b,r]++o) H A'/\ ∀bs∈T',bs∈o\/H.size<=bs)->K VT A'):
    ( H[b]? = some (l .ready none) ∧ ∀ f : Array Obj, f = aO H b (l .busy none) →
           ∃G:Option Nat,hat f (Addr.mk b2 0 none)=some (.map G)/\
           ∃F:Nat,G=some F/\
           ∃(y:Array MapEntry) (Y:Nat) (D:List (Int×Value)),f[F]?=some (.map y Y)/\Ents (bF .u64) y.toList D/\
           ∃g:Int,(mget D k).getD (vi 0)=vi g/\
           if g=0 then(
            ∃I:Int,hat f (Addr.mk bw 0 none)=some (vu I)/\
            cS.C I f (λap s=> ∃J:Int,ap=vi J/\
             if J=2 then(
              ∃L:Int,hat s (Addr.mk bw 0 none)=some (vu L)/\
              fI.C L s (λau t=> ∃M:Int,au=vi M/\
               if j=M then(
                ∃N:zW,hat t (Addr.mk bh 0 none)=some (vp N)/\
                bV.C N k t (λav P=> ∃O:Int,av=vi O/\
                 if O>0 then(
                  bA.C (some (Addr.mk r 0 none)) k (-1) P (λ_ T=>
                   T[b]?=some (l .busy none)/\
                   K VT (aO T b (l .ready none))))
                 else
                 bA.C (some (Addr.mk r 0 none)) k g P (λ_ U=>
                  U[b]?=some (l .busy none)/\
                  K VT (aO U b (l .ready none)))))
               else
               bA.C (some (Addr.mk r 0 none)) k g t (λ_ V=>
                V[b]?=some (l .busy none)/\
                K VT (aO V b (l .ready none)))))
             else
             bA.C (some (Addr.mk r 0 none)) k g s (λ_ W=>
              W[b]?=some (l .busy none)/\
              K VT (aO W b (l .ready none)))))
           else
           bA.C (some (Addr.mk r 0 none)) k g f (λ_ X=>
            X[b]?=some (l .busy none)/\
            K VT (aO X b (l .ready none)))):=by
  obtain⟨l1,l2,l3,l4,l5,l6,l7,l8⟩:=hl
  refine⟨ql,λf m=>?_⟩
  have R:Fr [b] H f:=by rw[m];exact Fr.set
  have ax:f.size=H.size:=by rw[m];simp
  have a4:f[b]?=some (l .busy none):=by rw[m];exact aY (aW ql)
  have S: ∀bs,b≠bs->bs ∉ [b]:=λbs h=>by simp;exact λe=>h e.symm
  have an:=aW ql
  have ab:=C.keep R (λbs hj=>S _ (λe=>l8 (e▸hj))) (S _ l7)
  have ak:=R.get (S _ l5) g2
  have a5:=R.get (S _ l4) g5
  have al:=R.get (S _ l3) g0
  have a2:=hp.keep R (λbr a0 hq=>by simp at a0;exact l1 (a0▸hq))
  have K20:=Kn.keep R (S _ l6) (λbs hj=>S _ (λe=>l2 (e▸hj)))
  clear m
  obtain⟨es,cl,ks,m1,m2,n,m3,hn⟩:=ab.num k
  have p : ∀ {Hs : Array Obj} {br : Int}, Ext f Hs → br = isF x.sp.mem d i (j, k) → bA.C (some (Addr.mk r 0 none)) k br Hs (fun _ Hx =>
                  Hx[b]?=some (l .busy none)/\
                  K VT (aO Hx b (l .ready none))):=λ{Hs br} e hi=>by
    refine HC.mono (vN (K20.ext e) ⟨by omega,by omega⟩) ?_
    rintro _ Hx ⟨T2,K2,f2,am⟩
    have ze:=e.size
    rw[hi]at K2
    obtain⟨d1,d2⟩:=wQ R ax ⟨l2,l6,an⟩ a4 hz hU K2 (e.fr.trans f2) (λbs hj=>by
      rcases am bs hj with h | h
      · exact .inl h
      · right;omega)
    exact⟨d1,hK _ d2⟩
  refine⟨some mr,by rw[aP ak];rfl,mr,rfl,es,cl,ks,m1,m2,n,m3,?_⟩
  by_cases w:n=0
  case neg=>
    rw[if_neg w]
    refine p (Ext.refl _) ?_
    unfold isF;rw[if_neg (λbu=>w (hn.trans bu.1))];exact hn
  rw[if_pos w]
  refine⟨i,by rw[aP a5];rfl,HC.mono (gK hw) ?_⟩
  rintro _ s ⟨rfl,Q⟩
  refine⟨_,rfl,?_⟩
  by_cases h2:i % 8=2
  case neg=>
    rw[if_neg h2]
    refine p Q ?_
    unfold isF;rw[if_neg (λbu=>h2 bu.2.1)];exact hn
  rw[if_pos h2]
  refine⟨i,by rw[aP (Q.get a5)];rfl,HC.mono (m7 hw) ?_⟩
  rintro _ t ⟨rfl,ai⟩
  refine⟨_,rfl,?_⟩
  have u:=Q.trans ai
  by_cases ha:j=aOf i
  case neg=>
    rw[if_neg ha]
    refine p u ?_
    unfold isF;rw[if_neg (λbu=>ha bu.2.2.1)];exact hn
  rw[if_pos ha]
  refine⟨_,by rw[aP (u.get al)];rfl,HC.mono (kN (.real (a2.ext u) ok) hv) ?_⟩
  have hm:mof (some (v,x))=x.sp.mem:=rfl
  rw[hm]
  rintro _ P ⟨rfl,aj⟩
  refine⟨_,rfl,?_⟩
  have Z:=u.trans aj
  by_cases hs:x.sp.mem.sizeOf k>0
  · rw[if_pos hs]
    refine p Z ?_
    unfold isF;rw[if_pos ⟨hn.symm.trans w,h2,ha,hs⟩]
  · rw[if_neg hs]
    refine p Z ?_
    unfold isF;rw[if_neg (λbu=>hs bu.2.2.2)];exact hn
end Go.Proofs.YtojbbgcjiaphjaaGreat
namespace Go.Proofs.YtojbbgcjiaphjaaGreat
open Go Go.Proofs.Tryz
open Go.ChangeShapes Go.WideShapes
variable{a b u v z:Nat}{H A:zV}{d:zW}{i:List Nat}{j:List iK}{k:Blk}{o:Hp}{q r:List Int}
def lW(m:Mem)(w:Int)(i:Nat):Int:=if m.fieldE w (m.typ w) i=0 then m.get (w / 8+1+i)else 0
def lc(m:Mem)(w:Int):Nat:=(m.len w-(aX m w).length).toNat
def mx(m:Mem)(L:List Int)(w:Int):Int×Int×Int×List Int×List Int:=
  (w % 8,m.typ w,m.more w,(aX m w).map (mR m L w)++(List.range (lc m w)).map (lW m w),(aX m w).map (isF m L w)++(List.range (lc m w)).map (λ_=>(0:Int)))
structure kh (A:zV) (oB:zW) (oN oC:Nat) (ks:List iK) (T:List Nat):Prop where
  len:oN=ks.length
  own:Own A 61 5 oB oN oC (ks.flatMap iK.cells)
  each: ∀k∈ks,k.words.xs.length=k.words.n/\Own A 40 1 k.words.p k.words.n k.words.c (wvs k.words.xs)/\k.is.xs.length=k.is.n/\Own A 3 1 k.is.p k.is.n k.is.c (ivs k.is.xs)/\ ∀j∈blks k.words.p++blks k.is.p,j∈T
  dis: ∀j∈T,j ∉ blks oB
  lt: ∀j∈T,j<A.size
theorem kh.keep{S:List Nat}{l:List iK}(h:kh H d a b l i)(f:Fr S H A)(q: ∀j∈blks d,j ∉ S)(g: ∀j∈i,j ∉ S):kh A d a b l i:=by
  refine⟨h.len,h.own.keep f q,λk hk=>?_,h.dis,λj c=>Nat.lt_of_lt_of_le (h.lt j c) f.size⟩
  obtain⟨m,n,o,p,e⟩:=h.each k hk
  exact⟨m,n.keep f (λj c=>g j (e j (List.mem_append_left _ c))),o,p.keep f (λj c=>g j (e j (List.mem_append_right _ c))),e⟩
theorem kh.ext(h:kh H d a b j i)(e:Ext H A):kh A d a b j i:=h.keep (S:=[]) e.fr (by simp) (by simp)
theorem sO(k:iK):kr k.cells=true:=rfl
set_option maxRecDepth 100000 in
theorem vO{w t:Int}{T:List Nat}{Kp:zW->Nat->zV->Prop}
    (hp:HpAt H k o) (ok:SpOK o.sp) (g0:H[a]?=some (.cells #[vp (some ⟨k.h,0,none⟩)] 28 (0,0))) (g5:H[b]?=some (.cells #[vu w] 40 (0,0))) (hw:aG w)
    (Kn:KnAt H u (w % 8) (o.sp.mem.typ w) t q r i) (ag:q.length<=1000/\r.length=q.length) (O:kh H d v z j T) (bz:v<=100000000)
    (hd: ∀c6∈u::i,c6 ∉ k.all/\c6≠a/\c6≠b/\c6 ∉ T/\c6 ∉ blks d)
    (hK: ∀R E A' N U',kh A' R (v+1) E (j++[N]) (U'++T)->keyK N=(w % 8,o.sp.mem.typ w,t,q++(List.range (o.sp.mem.len w-q.length).toNat).map (lW o.sp.mem w),r++(List.range (o.sp.mem.len w-q.length).toNat).map (λ_=>(0:Int)))->
      Fr (u :: i ++ blks d) H A' → (∀ c6 ∈ U', c6 ∈ i ∨ H.size ≤ c6) → (∀ c6 ∈ blks R, c6 ∈ blks d ∨ H.size ≤ c6) → Kp R E A') :
            ∃(a1:zw) (ak:Int->zV->Nat),a1 0 H/\ ∀(c5:Int) (D:zV),a1 c5 D->
            ∃xB:zW,∃xN:Nat,∃xC:Nat,hat D ((Addr.mk u 0 none).add 3)=some (vs xB xN xC)/\
            ∃U:zW,hat D (Addr.mk a 0 none)=some (vp U)/\
            ∃V:Int,hat D (Addr.mk b 0 none)=some (vu V)/\
            cY.C U V D (λam m=> ∃W:Int,am=vi W/\aQ m ((Addr.mk u 0 none).add 3) 0 [vs xB xN xC]/\
             if(xN:Int)<W then(
              ∃X:zW,hat m (Addr.mk a 0 none)=some (vp X)/\
              ∃Y:Int,hat m (Addr.mk b 0 none)=some (vu Y)/\
              ∃Z:Int,hat m ((Addr.mk u 0 none).add 1)=some (vi Z)/\
              eG.C X Y Z c5 m (λan av=> ∃ra:Int,∃al:Int,an=.tuple #[vu ra,vi al]/\
               bA.C (some (Addr.mk u 0 none)) ra 0 av (λ_ aa=>
                (a1 (IntKind.wrap .i64 (c5+1)) aa/\ak (IntKind.wrap .i64 (c5+1)) aa<ak c5 D))))
             else
             ∃B:Int,∃s:Int,∃p:Int,∃f:zW,∃l:Nat,∃g:Nat,∃x:zW,∃A:Nat,∃y:Nat,aQ m (Addr.mk u 0 none) 0 [vi B,vi s,vu p,vs f l g,vs x A y]/\
             ∀(ac:Nat) (J:zV),ac=m.size->J=m.push (.cells #[vi B,vi s,vu p,vs f l g,vs x A y] 61)->
             bR 5 61 72 [vi 0,vi 0,vu 0,VN,VN] d v z (some (Addr.mk ac 0 none)) 1 J (λR E a0=>Kp R E a0)):=by
  have bu:=o.sp.mem.len_rng w
  have bs:=Kn.lt
  have hm:mof (some (k,o))=o.sp.mem:=rfl
  refine⟨λc5 A1=> ∃(c7:Nat) (U1:List Nat),c5=c7/\(c7=0\/(q.length:Int)+c7<=o.sp.mem.len w)/\Fr (u::i) H A1/\KnAt A1 u (w % 8) (o.sp.mem.typ w) t (q++(List.range c7).map (lW o.sp.mem w)) (r++(List.range c7).map (λ_=>(0:Int))) U1/\ ∀c6∈U1,c6∈i\/H.size<=c6,λc5 _=>(o.sp.mem.len w-(q.length+c5)).toNat,
    ⟨0,i,rfl,.inl rfl,Fr.refl _ _,by simpa using Kn,λc6 c=> .inl c⟩,?_⟩
  rintro _ A1 ⟨c7,U1,rfl,hk,f1,K1,P⟩
  have aj:=hp.keep f1 (λc5 Q=>(hd c5 Q).1)
  have h0:=f1.get (λh=>(hd _ h).2.1 rfl) g0
  have h5:=f1.get (λh=>(hd _ h).2.2.1 rfl) g5
  have aw:=K1
  obtain⟨B1,c1,B2,c2,k1,k2,k3,k4,kU,k6⟩:=aw
  have a6:(q++(List.range c7).map (lW o.sp.mem w)).length=q.length+c7:=by simp
  have a7:(r++(List.range c7).map (λ_=>(0:Int))).length=q.length+c7:=by simp[ag.2]
  refine⟨B1,_,c1,eO k1 3,_,by rw[aP h0];rfl,w,by rw[aP h5];rfl,HC.mono (oq (.real aj ok) hw) ?_⟩
  rw[hm]
  rintro _ A2 ⟨rfl,I⟩
  have aT:=aj.ext I
  have M:=I.get k1
  have K2:=K1.ext I
  have z1:=f1.size
  have z2:=I.size
  refine⟨_,rfl,⟨by rw[show Addr.add _ 0=_ from rfl];exact eO M 3,trivial⟩,?_⟩
  rw[a6]at M⊢
  rw[a7]at M
  by_cases ah:((q.length+c7:Nat):Int)<o.sp.mem.len w
  · rw[if_pos ah]
    refine⟨_,by rw[aP (I.get h0)];rfl,w,by rw[aP (I.get h5)];rfl,o.sp.mem.typ w,eO M 1,?_⟩
    refine HC.mono (ur (.real aT ok) hw ⟨by omega,by omega⟩) ?_
    rw[hm]
    rintro _ A3 ⟨rfl,e3⟩
    refine⟨_,_,rfl,HC.mono (vN (K2.ext e3) ⟨by omega,by omega⟩) ?_⟩
    rintro _ A4 ⟨U4,K4,f4,az⟩
    have aZ:IntKind.wrap .i64 ((c7:Int)+1)=((c7+1:Nat):Int):=by rw[w64 (n:=(c7:Int)+1) (by omega)];omega
    rw[aZ]
    have z3:=e3.size
    refine⟨⟨c7+1,U4,rfl,by omega,(f1.trans' ((I.trans e3).fr.trans f4) (λc5 Q _=>Q) (λc5 Q hl=>?_)),?_,λc6 c=>?_⟩,by show(o.sp.mem.len w-((q.length:Int)+((c7+1:Nat):Int))).toNat< (o.sp.mem.len w-((q.length:Int)+(c7:Int))).toNat;omega⟩
    · rcases List.mem_cons.1 Q with h | h
      · simp[h]
      · rcases P c5 h with c8 | c8
        · simp[c8]
        · omega
    · have e1:q++(List.range (c7+1)).map (lW o.sp.mem w)=(q++(List.range c7).map (lW o.sp.mem w))++[putW (if o.sp.mem.fieldE w (o.sp.mem.typ w) (c7:Int)=0 then o.sp.mem.get (w / 8+1+(c7:Int))else 0) 0]:=by
        rw[List.range_succ,List.map_append,List.append_assoc];rfl
      have I:r++(List.range (c7+1)).map (λ_=>(0:Int))=(r++(List.range c7).map (λ_=>(0:Int)))++[0]:=by
        rw[List.range_succ,List.map_append,List.append_assoc];rfl
      rw[e1,I];exact K4
    · rcases az c6 c with h | h
      · rcases P c6 h with c8 | c8
        · exact .inl c8
        · exact .inr c8
      · right;omega
  · rw[if_neg ah]
    have aN:c7=(o.sp.mem.len w-q.length).toNat:=by omega
    refine⟨_,_,_,_,_,_,_,_,_,ls M,λb7 J aB K=>?_⟩
    have F:Ext A2 J:=Ext.push' K
    have bG:J.size=A2.size+1:=by rw[K];simp
    have O1:kh A2 d v z j T:=(O.keep f1 (λc6 c h=>(hd c6 h).2.2.2.2 c) (λc6 c h=>(hd c6 h).2.2.2.1 c)).ext I
    have b6:=F
    obtain⟨N,a5⟩: ∃N:iK,N=⟨w % 8,o.sp.mem.typ w,t,⟨B1,q.length+c7,c1,q++(List.range c7).map (lW o.sp.mem w)⟩,⟨B2,q.length+c7,c2,r++(List.range c7).map (λ_=>(0:Int))⟩⟩:=⟨_,rfl⟩
    refine dD (ys:=N.cells) (O1.own.ext F) (by rw[a5];exact ls (aH aB K)) rfl (sO N) rfl (by omega) ?_
    intro R E a0 b0 G ai
    have bH:=G.size
    have bw:=O1.own.lt
    have L: ∀c6∈U1,c6 ∉ blks d:=λc6 c h=>by
      rcases P c6 c with c8 | c8
      · exact(hd c6 (by simp[c8])).2.2.2.2 h
      · have:=O.own.lt c6 h;omega
    have S: ∀c6∈U1,c6<A2.size:=λc6 c=>by have:=K1.lt c6 (by simp[c]);omega
    have af:=O.lt
    have a4: ∀c6∈blks R,c6∈blks d\/A2.size<=c6:=λc6 c=>by
      rcases ai c6 c with h | h
      · exact .inl h
      · right;omega
    subst kU
    refine hK R E a0 N (blks B1++blks B2) ⟨?_,?_,?_,?_,?_⟩ ?_ ?_ P (λc6 c=>?_)
    · rw[O1.len];simp
    · rw[List.flatMap_append]
      have e:[N].flatMap iK.cells=N.cells:=by simp
      rw[e];exact b0
    · intro k' aC
      rcases List.mem_append.1 aC with h | h
      · obtain⟨bi,a2,a3,bl,ax⟩:=O1.each k' h
        refine⟨bi,(a2.ext F).keep G (λc6 c=>O1.dis c6 (ax c6 (List.mem_append_left _ c))),a3,(bl.ext F).keep G (λc6 c=>O1.dis c6 (ax c6 (List.mem_append_right _ c))),λc6 c=>List.mem_append_right _ (ax c6 c)⟩
      · simp at h
        rw[h,a5]
        have ae:=I.trans F
        rw[a6]at k2
        rw[a7]at k3
        exact⟨a6,(k2.ext ae).keep G (λc6 c=>L c6 (List.mem_append_left _ c)),a7,(k3.ext ae).keep G (λc6 c=>L c6 (List.mem_append_right _ c)),λc6 c=>List.mem_append_left _ c⟩
    · intro c6 c h
      rcases List.mem_append.1 c with c8 | c8
      · rcases a4 c6 h with c9 | c9
        · exact L c6 c8 c9
        · have:=S c6 c8;omega
      · rcases a4 c6 h with c9 | c9
        · exact O1.dis c6 c8 c9
        · have:=af c6 c8;omega
    · intro c6 c
      rcases List.mem_append.1 c with c8 | c8
      · have:=S c6 c8;omega
      · have:=af c6 c8;omega
    · rw[a5,<-aN];rfl
    · exact(f1.mono (λc5 Q _=>List.mem_append_left _ Q)).trans ((I.trans F).fr.trans (G.mono (λc5 Q _=>List.mem_append_right _ Q)))
    · rcases a4 c6 c with c9 | c9
      · exact .inl c9
      · right;omega
open Go.ChangeShapes Go.WideShapes
theorem oU(m:Mem)(w:Int):(aX m w).length<=63:=by
  have a:=ku m w
  unfold aX
  split
  · simp
  · rw[List.length_map,List.length_range]
    have:0<=cV m w:=by unfold cV;split<;>omega
    omega
theorem rM{m:Mem}(c:bJ m){w a v:Int}(h:(a,v)∈aX m w):aG v:=by
  unfold aX at h
  split at h
  · cases h
  · obtain⟨i,_,b⟩:=List.mem_map.1 h
    cases b
    exact Mem.read_word c _
set_option maxRecDepth 100000 in
set_option maxHeartbeats 1000000 in
theorem nZ{p mr c oN oC:Nat}{oB:zW}{w:Int}{Kp:zW->Nat->zV->zV->Prop}
    (hp:HpAt H k o) (ok:SpOK o.sp) (g0:H[b]?=some (.cells #[vp (some ⟨k.h,0,none⟩)] 28 (0,0))) (g5:H[u]?=some (.cells #[vu w] 40 (0,0))) (g2:H[v]?=some (.cells #[.map (some mr)] 100 (0,0)))
    (C:Came o.sp.mem q H d c mr r) (hw:aG w) (g6:H[p]?=some (.cells #[vi (w % 8),vi (o.sp.mem.typ w),vu (o.sp.mem.more w),VN,VN] 61 (0,0)))
    (O:kh H oB oN oC j i) (bZ:oN<=100000000) (hd: ∀cU,(cU∈k.all\/cU=b\/cU=u\/cU=v\/cU=mr\/cU∈blks d\/cU∈i\/cU∈blks oB)->cU<p)
    (hK: ∀aB Y L A' kn U',L.size=H.size+2->kh A' aB (oN+1) Y (j++[kn]) (U'++i)->keyK kn=mx o.sp.mem r w->A'[L.size]?=some (.deferred (some []))->Fr (p::blks oB) H A'->(∀cU∈U',H.size+4<=cU)->(∀cU∈blks aB,cU∈blks oB\/H.size+4<=cU)->Kp aB Y L A'):
         ∃ac:zW,hat H (Addr.mk b 0 none)=some (vp ac)/\
         ∃ae:Int,hat H (Addr.mk u 0 none)=some (vu ae)/\
         bY.C ac ae H (λb2 L=>b2=b2/\
          ∀(A:LoopState->Option Code->Obj) (g:Nat) (y:zV),g=L.size+1->y=(L.push (.deferred (some []))).push (A .ready none)->
          ∀vY:Value,(∀(af:Int) (m:Int) (a5:zV) (Z:zv),a5[g]?=some (A .ready none)->
          (a5[g]?=some (A .ready none)/\ ∀W:zV,W=aO a5 g (A .busy none)->
           ∃ag:Option Nat,hat W (Addr.mk v 0 none)=some (.map ag)/\
           ∃ab:Nat,ag=some ab/\
           ∃(a6:Array MapEntry) (be:Nat) (aa:List (Int×Value)),W[ab]?=some (.map a6 be)/\Ents (bF .u64) a6.toList aa/\
           ∃B:Int,(mget aa m).getD (vi 0)=vi B/\
           if B=0 then(
            ∃ah:Int,hat W (Addr.mk u 0 none)=some (vu ah)/\
            cS.C ah W (λc8 ax=> ∃ai:Int,c8=vi ai/\
             if ai=2 then(
              ∃aj:Int,hat ax (Addr.mk u 0 none)=some (vu aj)/\
              fI.C aj ax (λc9 ay=> ∃ak:Int,c9=vi ak/\
               if af=ak then(
                ∃al:zW,hat ay (Addr.mk b 0 none)=some (vp al)/\
                bV.C al m ay (λcc b3=> ∃am:Int,cc=vi am/\
                 if am>0 then(
                  bA.C (some (Addr.mk p 0 none)) m (-1) b3 (λ_ b4=>
                   b4[g]?=some (A .busy none)/\
                   Z VT (aO b4 g (A .ready none))))
                 else
                 bA.C (some (Addr.mk p 0 none)) m B b3 (λ_ b5=>
                  b5[g]?=some (A .busy none)/\
                  Z VT (aO b5 g (A .ready none)))))
               else
               bA.C (some (Addr.mk p 0 none)) m B ay (λ_ b6=>
                b6[g]?=some (A .busy none)/\
                Z VT (aO b6 g (A .ready none)))))
             else
             bA.C (some (Addr.mk p 0 none)) m B ax (λ_ b7=>
              b7[g]?=some (A .busy none)/\
              Z VT (aO b7 g (A .ready none)))))
           else
           bA.C (some (Addr.mk p 0 none)) m B W (λ_ b8=>
            b8[g]?=some (A .busy none)/\
            Z VT (aO b8 g (A .ready none))))->
          FC prog vY #[vi af,vu m] a5 Z)->
          FE prog b2 #[vY] y (λ_ b9=>
           (b9[g]?=some (A .ready none)/\ ∀a1:zV,a1=aO b9 g (A .exhausted none)->
            ∃(az:zw) (bh:Int->zV->Nat),az 0 a1/\ ∀(cT:Int) (X:zV),az cT X->
            ∃xB:zW,∃xN:Nat,∃xC:Nat,hat X ((Addr.mk p 0 none).add 3)=some (vs xB xN xC)/\
            ∃an:zW,hat X (Addr.mk b 0 none)=some (vp an)/\
            ∃ao:Int,hat X (Addr.mk u 0 none)=some (vu ao)/\
            cY.C an ao X (λbj E=> ∃ap:Int,bj=vi ap/\aQ E ((Addr.mk p 0 none).add 3) 0 [vs xB xN xC]/\
             if(xN:Int)<ap then(
              ∃au:zW,hat E (Addr.mk b 0 none)=some (vp au)/\
              ∃av:Int,hat E (Addr.mk u 0 none)=some (vu av)/\
              ∃aw:Int,hat E ((Addr.mk p 0 none).add 1)=some (vi aw)/\
              eG.C au av aw cT E (λbk bs=> ∃ra:Int,∃bi:Int,bk=.tuple #[vu ra,vi bi]/\
               bA.C (some (Addr.mk p 0 none)) ra 0 bs (λ_ ba=>
                (az (IntKind.wrap .i64 (cT+1)) ba/\bh (IntKind.wrap .i64 (cT+1)) ba<bh cT X))))
             else
             ∃V:Int,∃I:Int,∃G:Int,∃s:zW,∃x:Nat,∃t:Nat,∃Q:zW,∃T:Nat,∃R:Nat,aQ E (Addr.mk p 0 none) 0 [vi V,vi I,vu G,vs s x t,vs Q T R]/\
             ∀(bd:Nat) (bb:zV),bd=E.size->bb=E.push (.cells #[vi V,vi I,vu G,vs s x t,vs Q T R] 61)->
             bR 5 61 72 [vi 0,vi 0,vu 0,VN,VN] oB oN oC (some (Addr.mk bd 0 none)) 1 bb (λaB Y bu=>Kp aB Y L bu))))):=by
  refine⟨_,by rw[aP g0];rfl,w,by rw[aP g5];rfl,?_⟩
  refine bY.link ?_
  unfold bY.pt
  intro c0 H1 bP aC c1 H2 bT aN
  have e1:Ext H H1:=Ext.push' aC
  have e2:Ext H1 H2:=Ext.push' aN
  have z1:H1.size=H.size+1:=by rw[aC];simp
  have z2:H2.size=H1.size+1:=by rw[aN];simp
  refine⟨rfl,λA g y cx P vY hY=>?_⟩
  have e3:Ext H2 y:=(Ext.push' rfl).trans (Ext.push' P)
  have z3:y.size=H2.size+2:=by rw[P];simp
  have bf:y[H2.size]?=some (.deferred (some [])):=by
    have:(H2.push (.deferred (some [])))[H2.size]?=some (.deferred (some [])):=aH rfl rfl
    exact(Ext.push' P).get this
  have bE:y[g]?=some (A .ready none):=aH (by simp;omega) P
  have e:=(e1.trans e2).trans e3
  have cy:=aW g6
  have aT: ∀cT,cT∈[g,p]->cT=g\/cT=p:=λcT n=>by simpa using n
  have old: ∀cU,(cU∈k.all\/cU=b\/cU=u\/cU=v\/cU=mr\/cU∈blks d\/cU∈i\/cU∈blks oB)->cU ∉ [g,p]:=λcU f h=>by
    have:=hd cU f
    rcases aT cU h with h | h<;>omega
  refine FE.of2 (enters_of func97 (by kernel_rfl) rfl) rfl (oz (w:=w) (S:=[g,p])
    (J:=λl U D=>D[g]?=some (A .ready none)/\KnAt D p (w % 8) (o.sp.mem.typ w) (o.sp.mem.more w) (l.map (mR o.sp.mem r w)) (l.map (isF o.sp.mem r w)) U/\ ∀cU∈U,y.size<=cU)
    (hp.ext e) ok ((e2.trans e3).get (aH bP aC)) (e3.get (aH bT aN)) hw (λcT n=>⟨λhq=>old cT (.inl hq) n,by rcases aT cT n with h | h<;>omega,by rcases aT cT n with h | h<;>omega⟩)
    (λl U D D' ⟨h1,h2,h3⟩ ee=>⟨ee.get h1,h2.ext ee,h3⟩) (λl U D h cU f=>h.2.2 cU f)
    (λb1 a d0 cj U D a9 N hJ=>?_) ⟨bE,⟨none,0,none,0,e.get g6,iY,iY,by simp,rfl,by simp⟩,by simp⟩ (λU D hJ N=>?_))
  · obtain⟨ql,Kn,hU⟩:=hJ
    have c6:aG d0:=rM (a:=a) ok.mem (by rw[a9];simp)
    have z0:=N.size
    have cz:b1.length<=63:=by
      have:=oU o.sp.mem w
      rw[a9]at this;simp at this;omega
    refine(show∀K:zv,(∀A',(∃T':List Nat,(A'[g]?=some (A .ready none)/\KnAt A' p (w % 8) (o.sp.mem.typ w) (o.sp.mem.more w) (b1.map (mR o.sp.mem r w)++[mR o.sp.mem r w (a,d0)]) (b1.map (isF o.sp.mem r w)++[isF o.sp.mem r w (a,d0)]) T'/\ ∀cU∈T',y.size<=cU)/\
        Fr ([g,p]++U) D A'/\ ∀cU∈T',cU∈U\/D.size<=cU)->K VT A')->FC prog vY #[vi a,vu d0] D K from λK bH=>hY a d0 D K ql (wR (K:=K) (z:=y.size) ((hp.ext e).keep N (λcT n hq=>old cT (.inl hq) n)) ok
        (N.get (old _ (.inr (.inl rfl))) (e.get g0)) (N.get (old _ (.inr (.inr (.inl rfl)))) (e.get g5)) (N.get (old _ (.inr (.inr (.inr (.inl rfl))))) (e.get g2)) ((C.ext e).keep N (λcU f=>old cU (by simp[f])) (old _ (by simp))) hw c6 Kn ⟨by simp;omega,by simp;omega⟩ ql ?_ z0 hU bH)) _ (λA' ⟨T',⟨q1,q2,q3⟩,q4,q5⟩=> .inl ⟨rfl,T',⟨q1,by rw[List.map_append,List.map_append];exact q2,q3⟩,q4,q5⟩)
    have cZ: ∀cU,(cU∈k.all\/cU=b\/cU=u\/cU=v\/cU=mr\/cU∈blks d\/cU∈i\/cU∈blks oB)->g≠cU:=λcU f=>by have:=hd cU f;omega
    exact⟨λh=>cZ g (.inl h) rfl,λh=>by have:=hU g h;omega,cZ _ (by simp),cZ _ (by simp),cZ _ (by simp),by omega,cZ _ (by simp),λh=>cZ g (by simp[h]) rfl⟩
  · obtain⟨ql,Kn,hU⟩:=hJ
    refine⟨ql,λa1 a7=>?_⟩
    have M:Fr [g] D a1:=by rw[a7];exact Fr.set
    have z0:=N.size
    have cK:a1.size=D.size:=by rw[a7];simp
    have F: ∀cU,(cU∈k.all\/cU=b\/cU=u\/cU=v\/cU=mr\/cU∈blks d\/cU∈i\/cU∈blks oB)->cU ∉ [g]:=λcU f h=>by
      have:=hd cU f;simp at h;omega
    have bM: ∀cU∈p::U,p<=cU:=λcU f=>by
      rcases List.mem_cons.1 f with h | h
      · omega
      · have:=hU cU h;omega
    have a2: ∀cU∈p::U,∀cT,(cT∈k.all\/cT=b\/cT=u\/cT=v\/cT=mr\/cT∈blks d\/cT∈i\/cT∈blks oB)->cU≠cT:=λcU f cT n=>by have:=bM cU f;have:=hd cT n;omega
    refine vO (((hp.ext e).keep N (λcT n hq=>old cT (.inl hq) n)).keep M (λcT n hq=>F cT (.inl hq) n)) ok (M.get (F _ (by simp)) (N.get (old _ (by simp)) (e.get g0))) (M.get (F _ (by simp)) (N.get (old _ (by simp)) (e.get g5))) hw
      (Kn.keep M (by simp;omega) (λcU f=>by have:=hU cU f;simp;omega)) ⟨by have:=oU o.sp.mem w;simp;omega,by simp⟩ (((O.ext e).keep N (λcU f=>old cU (by simp[f])) (λcU f=>old cU (by simp[f]))).keep M (λcU f=>F cU (by simp[f])) (λcU f=>F cU (by simp[f]))) bZ
      (λcU f=>⟨λh=>a2 cU f cU (.inl h) rfl,a2 cU f _ (by simp),a2 cU f _ (by simp),λh=>a2 cU f cU (by simp[h]) rfl,λh=>a2 cU f cU (by simp[h]) rfl⟩) ?_
    intro aB Y A' kn U' O' hk fA bI bN
    have bU:H2.size ∉ p::U++blks oB:=λh=>by
      rcases List.mem_append.1 h with h | h
      · rcases List.mem_cons.1 h with h | h
        · omega
        · have:=hU _ h;omega
      · have:=hd H2.size (by simp[h]);omega
    refine hK aB Y H2 A' kn U' (by omega) O' ?_ (fA.get bU (M.get (by simp;omega) (N.get (by simp;omega) bf))) ?_ (λcU f=>?_) (λcU f=>?_)
    · rw[hk]
      unfold mx lc
      rw[List.length_map]
    · refine e.fr.trans' ((N.mono (λcT n _=>List.mem_append_left _ n) (S':=[g,p]++(U++blks oB))).trans ((M.mono (λcT n _=>by simp at n;simp[n])).trans (fA.mono (λcT n _=>by
        rcases List.mem_append.1 n with h | h
        · rcases List.mem_cons.1 h with h | h
          · simp[h]
          · simp[h]
        · simp[h])))) (S:=[]) (λcT n _=>by simp at n) (λcT n hl=>?_)
      simp at n
      rcases n with h | h | h | h
      · omega
      · simp[h]
      · have:=hU cT h;omega
      · simp[h]
    · rcases bI cU f with h | h
      · have:=hU cU h;omega
      · omega
    · rcases bN cU f with h | h
      · exact .inl h
      · right;omega
open Go.ChangeShapes Go.WideShapes
def picF(roots L:List Int):Int×Int×Int×List Int×List Int:=(0,0,0,roots.map (λw=>putW w (numOf L w)),roots.map (numOf L))
def picL(m:Mem)(roots L:List Int):List (Int×Int×Int×List Int×List Int):=picF roots L::L.map (mx m L)
def tM(m:Mem)(roots L:List Int)(H4:zV)(oB:zW)(oN oC:Nat)(s:Int)(ms:List Nat)(A:zV):Prop:=
 ∃(k:Nat) (ks:List iK) (T:List Nat),s=k/\k<=L.length/\oN=k+1/\kh A oB oN oC ks T/\ks.map keyK=picF roots L::(L.take k).map (mx m L)/\Ext H4 A/\(∀j∈T,H4.size<=j)/\(∀j∈blks oB,H4.size<=j)/\ms.Nodup/\
  ∀D∈ms,A[D]?=some (.deferred (some []))/\H4.size<=D/\D ∉ T/\D ∉ blks oB
theorem vP{m:Mem}{c e k:zV}{n:zW}{T l:List Nat}{C:iK}(hk:v<r.length)(U:a=v+1)(O:kh A d a b j T)
  (y:j.map keyK=picF q r::(r.take v).map (mx m r)) (G:Ext H A) (P: ∀Z∈T,H.size<=Z) (I: ∀Z∈blks d,H.size<=Z) (B:i.Nodup) (J: ∀D∈i,A[D]?=some (.deferred (some []))/\H.size<=D/\D ∉ T/\D ∉ blks d)
  (o:Ext A c) (S:A.size<=z) (M:e.size=c.size+2) (N:kh k n (a+1) u (j++[C]) (l++T)) (x:keyK C=mx m r r[v]) (Q:k[e.size]?=some (.deferred (some []))) (f:Fr (z::blks d) c k)
  (t: ∀Z∈l,c.size+4<=Z) (g: ∀Z∈blks n,Z∈blks d\/c.size+4<=Z):tM m q r H n (a+1) u ((v+1:Nat):Int) (e.size::i) k:=by
 have W:=G.size
 have X:=o.size
 have s:=O.lt
 have p:=O.own.lt
 refine⟨v+1,j++[C],l++T,rfl,hk,by omega,N,?_,(G.trans o).fr_trans f (λY R=>?_),λZ w=>?_,λZ w=>?_,?_,λD h=>?_⟩
 ·rw[List.map_append,y,List.take_succ_eq_append_getElem hk,List.map_append]
  simp[x]
 ·rcases List.mem_cons.1 R with h | h
  ·omega
  ·exact I Y h
 ·rcases List.mem_append.1 w with h | h
  ·have:=t Z h;omega
  ·exact P Z h
 ·rcases g Z w with h | h
  ·exact I Z h
  ·omega
 ·rw[List.nodup_cons]
  exact⟨λh=>by have:=aW (J _ h).1;omega,B⟩
 ·rcases List.mem_cons.1 h with h | h
  ·subst h
   refine⟨Q,by omega,λh=>?_,λh=>?_⟩
   ·rcases List.mem_append.1 h with h | h
    ·have:=t _ h;omega
    ·have:=s _ h;omega
   ·rcases g _ h with h | h
    ·have:=p _ h;omega
    ·omega
  ·obtain⟨E,K,L,F⟩:=J D h
   have V:=aW E
   refine⟨f.get (λh=>?_) (o.get E),K,λh=>?_,λh=>?_⟩
   ·rcases List.mem_cons.1 h with h | h
    ·omega
    ·exact F h
   ·rcases List.mem_append.1 h with h | h
    ·have:=t _ h;omega
    ·exact L h
   ·rcases g _ h with h | h
    ·exact F h
    ·omega
set_option maxRecDepth 100000 in
set_option maxHeartbeats 2000000 in
theorem oD(hp:HpAt H k o)(ok:SpOK o.sp)(hr:Nums H .u64 d a q)(cD:a<=1000000)(cI: ∀w∈q,aG w)(cC: ∀j∈blks d,j<H.size):
  eR.C (some ⟨k.h,0,none⟩) d a b H (λv A'=> ∃(oB:zW) (oC:Nat) (ks:List iK) (T:List Nat) (L:List Int),(∃ef,L=bD o.sp.mem q ef/\L.length=ef)/\v=vs oB ks.length oC/\kh A' oB ks.length oC ks T/\ks.map keyK=picL o.sp.mem q L/\(∀j∈T,H.size<=j)/\(∀j∈blks oB,H.size<=j)/\Ext H A'/\L.length<=524288/\ ∀w∈L,aG w):=by
 refine HC.via λR hR=>eR.link ?_
 unfold eR.pt zY
 intro cZ H1 ct am
 have hb:=hp.lt
 have e1:Ext H H1:=Ext.push' am
 have z1:H1.size=H.size+1:=by rw[am];simp
 have g0:=aH ct am
 refine⟨_,by rw[aP g0];rfl,HC.mono (vL (hp.ext e1) ok (hr.ext e1) cD cI (λj u=>by have:=cC j u;omega)) ?_⟩
 rintro _ H2 ⟨B,c,mr,L,rfl,C,hB,dG,e2⟩
 have dC:=C.len
 refine⟨B,_,c,some mr,rfl,λc5 H3 bn an=>?_⟩
 have z2:=e2.size
 have z3:H3.size=H2.size+1:=by rw[an];simp
 obtain⟨c3,s3⟩:=gU (A3:=aR H3 (Addr.mk c5 0 none) [.map (some mr)] 0) bn an [.map (some mr)] rfl
 refine⟨c3,λH4 bh d0 H5 cu ao=>?_⟩
 obtain⟨g2,e4⟩:=s3 rfl
 rw[<-bh]at g2 e4
 have Z:H4[c5]?=some (.cells #[.map (some mr)] 100 (0,0)):=g2
 have z4:H4.size=H3.size:=by rw[bh,cH _ _ _ _ _ (aH bn an)];simp
 have e5:Ext H4 H5:=Ext.push' ao
 have z5:H5.size=H4.size+1:=by rw[ao];simp
 have E4:=(e1.trans e2).trans e4
 have C4:=C.ext e4
 have b9:=(e2.trans e4).get g0
 have bs:=hp.ext E4
 have r4:=hr.ext E4
 have dI:=hr.len
 obtain⟨_,_,_,cM,_,_⟩:=C4.map
 have dP:=aW cM
 have Bl:=C4.own.lt
 have ds:=aW Z
 have dr:=aW b9
 refine⟨λi A1=> ∃(ef:Nat) (U:List Nat),i=ef/\ef<=q.length/\KnAt A1 d0 0 0 0 ((q.take ef).map (λw=>putW w (numOf L w))) ((q.take ef).map (numOf L)) U/\Ext H4 A1/\ ∀j∈U,H5.size<=j,λi _=>((a:Int)-i).toNat,
  ⟨0,[],rfl,by omega,⟨none,0,none,0,aH cu ao,iY,iY,by simp,rfl,by simp⟩,e5,by simp⟩,?_⟩
 rintro _ H6 ⟨ef,U,rfl,hk,K6,e6,au⟩
 by_cases aw:(ef:Int)< (a:Int)
 ·rw[if_pos aw]
  have P:ef<q.length:=by omega
  obtain⟨pa,p1,p2⟩:=(r4.ext e6).at P
  obtain⟨es,cl,ks,m1,m2,n,m3,hn⟩:=(C4.ext e6).num q[ef]
  refine⟨pa,p1,⟨by omega,aw⟩,_,by rw[show Int.toNat (ef:Int)=ef by omega];exact p2,some mr,by rw[aP (e6.get Z)];rfl,mr,rfl,es,cl,ks,m1,m2,n,m3,?_⟩
  refine HC.mono (vN K6 ⟨by simp;omega,by simp;omega⟩) ?_
  rintro _ H7 ⟨U7,K7,f7,cs⟩
  have ax:IntKind.wrap .i64 ((ef:Int)+1)=((ef+1:Nat):Int):=by rw[w64 (n:=(ef:Int)+1) (by omega)];omega
  rw[ax]
  have z6:=e6.size
  have bo:=K6.lt d0 (by simp)
  refine⟨⟨ef+1,U7,rfl,P,?_,e6.fr_trans f7 (λi hi=>?_),λj u=>?_⟩,by show((a:Int)-((ef+1:Nat):Int)).toNat< ((a:Int)-(ef:Int)).toNat;omega⟩
  ·rw[List.take_succ_eq_append_getElem P,List.map_append,List.map_append]
   rw[hn]at K7
   exact K7
  ·rcases List.mem_cons.1 hi with h | h
   ·omega
   ·have:=au i h;omega
  ·rcases cs j u with h | h
   ·exact au j h
   ·omega
 rw[if_neg aw]
 rw[List.take_of_length_le (by omega)]at K6
 obtain⟨B1,c1,B2,c2,k1,k2,k3,k4,kU,k6⟩:=K6
 have bu:(q.map (λw=>putW w (numOf L w))).length=q.length:=by simp
 have bw:(q.map (numOf L)).length=q.length:=by simp
 rw[bu]at k1 k2
 rw[bw]at k1 k3
 refine⟨_,_,_,_,_,_,_,_,_,ls k1,λdt H8 cv ap=>?_⟩
 have e8:Ext H6 H8:=Ext.push' ap
 have z8:H8.size=H6.size+1:=by rw[ap];simp
 have z6:=e6.size
 have bo:=aW k1
 obtain⟨kn,r⟩: ∃kn:iK,kn=⟨0,0,0,⟨B1,q.length,c1,q.map (λw=>putW w (numOf L w))⟩,⟨B2,q.length,c2,q.map (numOf L)⟩⟩:=⟨_,rfl⟩
 have bk: ∀j∈U,j<H6.size:=λj u=>by
  subst kU
  rcases List.mem_append.1 u with h | h
  ·exact k2.lt j h
  ·exact k3.lt j h
 have O8:kh H8 (some (Addr.mk dt 0 none)) 1 1 [kn] U:=by
  refine⟨rfl,?_,λk' bq=>?_,λj u h=>?_,λj u=>by have:=bk j u;omega⟩
  ·have e:[kn].flatMap iK.cells=kn.cells:=by simp
   rw[e,r]
   refine⟨rfl,_,aH cv ap,rfl,Nat.le_refl _,rfl,λj u=>?_⟩
   rw[List.getElem?_toArray]
  ·simp at bq
   rw[bq,r]
   subst kU
   exact⟨bu,k2.ext e8,bw,k3.ext e8,λj u=>u⟩
  ·have:=bk j u;simp at h;omega
 refine⟨tM o.sp.mem q L H4,λ_ _ _ s _ _=>((L.length:Int)-s).toNat,⟨0,[kn],U,rfl,by omega,rfl,O8,by rw[r];rfl,e6.trans e8,λj u=>by have:=au j u;omega,λj u=>by simp at u;omega,List.nodup_nil,by simp⟩,?_⟩
 rintro oB oN oC _ ms H9 ⟨ef,ks,T,rfl,dF,cz,O,av,e9,hT,ba,br,hD⟩
 by_cases a3:(ef:Int)< (L.length:Int)
 case neg=>
  rw[if_neg a3]
  rw[List.take_of_length_le (by omega)]at av
  refine nY ms H9 br (λD h=>(hD D h).1) (λA2 f2=>?_)
  have hl:=O.len
  rw[hl]
  rw[hl]at O
  exact hR _ _ ⟨oB,oC,ks,T,L,C.all,rfl,O.keep f2 (λj u h=>(hD j h).2.2.2 u) (λj u h=>(hD j h).2.2.1 u),av,λj u=>by have:=hT j u;have:=E4.size;omega,λj u=>by have:=ba j u;have:=E4.size;omega,(E4.trans e9).fr_trans f2 (λi hi=>by have:=(hD i hi).2.1;have:=E4.size;omega),C.len,λw hw=>(C.pos w hw).2⟩
 rw[if_pos a3]
 have P:ef<L.length:=by omega
 have t:=(C.pos _ (List.getElem_mem P)).2
 obtain⟨pa,p1,p2⟩:=lI (C4.own.ext e9).src P
 have z9:=e9.size
 refine⟨pa,p1,⟨by omega,a3⟩,L[ef],by rw[show Int.toNat (ef:Int)=ef by omega];exact p2,λbz bG cw bc=>?_⟩
 obtain⟨c7,cP⟩:=gU (A3:=aR bG (Addr.mk bz 0 none) [vu L[ef]] 0) cw bc [vu L[ef]] rfl
 refine⟨c7,λp bd=>?_⟩
 obtain⟨g5,J⟩:=cP rfl
 rw[<-bd]at g5 J
 have E:p[bz]?=some (.cells #[vu L[ef]] 40 (0,0)):=g5
 have dS:=J.size
 have du:=aW E
 have y:=e9.trans J
 have h0:=y.get b9
 have x: ∀{Hx:zV},Ext p Hx->HpAt Hx k o:=λe=>bs.ext (y.trans e)
 have m: ∀{Hx:zV},Ext p Hx->aQ Hx (Addr.mk cZ 0 none) 0 [vp (some ⟨k.h,0,none⟩)]:=λe=>ls (e.get h0)
 have l: ∀{Hx:zV},Ext p Hx->aQ Hx (Addr.mk bz 0 none) 0 [vu L[ef]]:=λe=>ls (e.get E)
 have hm:mof (some (k,o))=o.sp.mem:=rfl
 have ax:IntKind.wrap .i64 ((ef:Int)+1)=((ef+1:Nat):Int):=by rw[w64 (n:=(ef:Int)+1) (by omega)];omega
 have bp:((L.length:Int)-((ef+1:Nat):Int)).toNat< ((L.length:Int)-(ef:Int)).toNat:=by omega
 have cr:=O.lt
 have cq:=O.own.lt
 have hd: ∀nb:Nat,p.size<=nb-> ∀j,(j∈k.all\/j=cZ\/j=bz\/j=c5\/j=mr\/j∈blks B\/j∈T\/j∈blks oB)->j<nb:=λnb hn j u=>by
  rcases u with h | h | h | h | h | h | h | h
  ·have:=bs.lt j h;omega
  ·omega
  ·omega
  ·omega
  ·omega
  ·have:=Bl j h;omega
  ·have:=cr j h;omega
  ·have:=cq j h;omega
 refine⟨L[ef],by rw[aP E];rfl,_,by rw[aP h0];rfl,L[ef],by rw[aP E];rfl,_,by rw[aP h0];rfl,L[ef],by rw[aP E];rfl,?_⟩
 rw[ax]
 have a5: ∀{W N A':zV} {nb:Nat} {eg:zW} {X:Nat} {kn:iK} {U':List Nat},Ext p W->p.size<=nb->N.size=W.size+2->kh A' eg (oN+1) X (ks++[kn]) (U'++T)->keyK kn=mx o.sp.mem L L[ef]->A'[N.size]?=some (.deferred (some []))->Fr (nb::blks oB) W A'->(∀j∈U',W.size+4<=j)->(∀j∈blks eg,j∈blks oB\/W.size+4<=j)->
   tM o.sp.mem q L H4 eg (oN+1) X ((ef+1:Nat):Int) (N.size::ms) A'/\((L.length:Int)-((ef+1:Nat):Int)).toNat< ((L.length:Int)-(ef:Int)).toNat:=λg dH F hO r I f hU G=>
  ⟨vP P cz O av e9 hT ba br hD (J.trans g) (by omega) F hO r I f hU G,bp⟩
 refine⟨?_,?_⟩
 ·refine HC.mono (gK t) ?_
  rintro _ bH ⟨rfl,K⟩
  have dT:=K.size
  refine⟨_,rfl,m K,l K,m K,l K,?_,?_⟩
  ·refine HC.mono (jY (.real (x K) ok) t) ?_
   rw[hm]
   rintro _ bI ⟨rfl,M⟩
   have M:=K.trans M
   have dW:=M.size
   refine⟨_,rfl,m M,l M,?_,?_⟩
   ·refine HC.mono (mf (.real (x M) ok) t) ?_
    rw[hm]
    rintro _ de ⟨rfl,a4⟩
    have a4:=M.trans a4
    have dX:=a4.size
    refine⟨_,rfl,λc6 bM cx be=>?_⟩
    obtain⟨c8,cQ⟩:=gU (A3:=aR bM (Addr.mk c6 0 none) [vi (L[ef] % 8),vi (o.sp.mem.typ L[ef]),vu (o.sp.mem.more L[ef]),VN,VN] 0) cx be [vi (L[ef] % 8),vi (o.sp.mem.typ L[ef]),vu (o.sp.mem.more L[ef]),VN,VN] rfl
    refine⟨c8,λW bf=>?_⟩
    obtain⟨g6,g⟩:=cQ rfl
    rw[<-bf]at g6 g
    have g:=a4.trans g
    refine nZ (x g) ok (g.get h0) (g.get E) ((y.trans g).get Z) (C4.ext (y.trans g)) t g6 (O.ext (J.trans g)) (by omega) (hd c6 (by omega)) (λeg X N A' kn U' F hO r I f hU G=>a5 g (show p.size<=c6 by omega) F hO r I f hU G)
   ·intro b8 bP cy ae
    have cg:Ext bI bP:=Ext.push' ae
    have cn:=aH cy ae
    have Q:=M.trans cg
    refine⟨m Q,l Q,HC.mono (mf (.real (x Q) ok) t) ?_⟩
    rw[hm]
    rintro _ dh ⟨rfl,b2⟩
    obtain⟨c9,cR⟩:=jP (n:=5) (vs:=[vi (L[ef] % 8),vi (o.sp.mem.typ L[ef]),vu (o.sp.mem.more L[ef]),VN,VN]) (b2.get cn) rfl rfl
    refine⟨_,rfl,c9,λaN bg=>?_⟩
    obtain⟨g6,cj⟩:=cR aN bg
    have g:Ext p aN:=(Q.trans b2).fr_trans cj (λi hi=>by simp at hi;omega)
    refine nZ (x g) ok (g.get h0) (g.get E) ((y.trans g).get Z) (C4.ext (y.trans g)) t g6 (O.ext (J.trans g)) (by omega) (hd b8 (by omega)) (λeg X N A' kn U' F hO r I f hU G=>a5 g (show p.size<=b8 by omega) F hO r I f hU G)
  ·intro b0 bV bl af
   have ch:Ext bH bV:=Ext.push' af
   have co:=aH bl af
   have z:=K.trans ch
   refine⟨m z,l z,m z,l z,HC.mono (jY (.real (x z) ok) t) ?_⟩
   rw[hm]
   rintro _ di ⟨rfl,b3⟩
   have S:=z.trans b3
   refine⟨_,rfl,m S,l S,HC.mono (mf (.real (x S) ok) t) ?_⟩
   rw[hm]
   rintro _ dj ⟨rfl,b4⟩
   obtain⟨cc,cS⟩:=jP (n:=5) (vs:=[vi (L[ef] % 8),vi (o.sp.mem.typ L[ef]),vu (o.sp.mem.more L[ef]),VN,VN]) ((b3.trans b4).get co) rfl rfl
   refine⟨_,rfl,cc,λaT bi=>?_⟩
   obtain⟨g6,ck⟩:=cS aT bi
   have g:Ext p aT:=(S.trans b4).fr_trans ck (λi hi=>by simp at hi;omega)
   refine nZ (x g) ok (g.get h0) (g.get E) ((y.trans g).get Z) (C4.ext (y.trans g)) t g6 (O.ext (J.trans g)) (by omega) (hd b0 (by omega)) (λeg X N A' kn U' F hO r I f hU G=>a5 g (show p.size<=b0 by omega) F hO r I f hU G)
 ·intro b1 bZ bm ag
  have Y:Ext p bZ:=Ext.push' ag
  have cp:=aH bm ag
  refine⟨l Y,m Y,l Y,m Y,l Y,HC.mono (gK t) ?_⟩
  rintro _ dk ⟨rfl,b5⟩
  have A:=Y.trans b5
  refine⟨_,rfl,m A,l A,m A,l A,HC.mono (jY (.real (x A) ok) t) ?_⟩
  rw[hm]
  rintro _ dl ⟨rfl,b6⟩
  have V:=A.trans b6
  refine⟨_,rfl,m V,l V,HC.mono (mf (.real (x V) ok) t) ?_⟩
  rw[hm]
  rintro _ dm ⟨rfl,b7⟩
  obtain⟨cd,cT⟩:=jP (n:=5) (vs:=[vi (L[ef] % 8),vi (o.sp.mem.typ L[ef]),vu (o.sp.mem.more L[ef]),VN,VN]) (((b5.trans b6).trans b7).get cp) rfl rfl
  refine⟨_,rfl,cd,λaZ bj=>?_⟩
  obtain⟨g6,cm⟩:=cT aZ bj
  have g:Ext p aZ:=(V.trans b7).fr_trans cm (λi hi=>by simp at hi;omega)
  refine nZ (x g) ok (g.get h0) (g.get E) ((y.trans g).get Z) (C4.ext (y.trans g)) t g6 (O.ext (J.trans g)) (by omega) (hd b1 (by omega)) (λeg X N A' kn U' F hO r I f hU G=>a5 g (show p.size<=b1 by omega) F hO r I f hU G)
theorem uI{A:Blk}{roots:List Int}(x:HpAt H A o)(z:SpOK o.sp)(y:Nums H .u64 d a roots)(l:a<=1000000)(m: ∀w∈roots,aG w)(i: ∀j∈blks d,j<H.size):
  eR.C (some ⟨A.h,0,none⟩) d a b H (λv g=> ∃(e:zW) (f:Nat) (c:List iK) (T:List Nat) (L:List Int),(∃k,L=bD o.sp.mem roots k/\L.length=k)/\v=vs e c.length f/\kh g e c.length f c T/\c.map keyK=picL o.sp.mem roots L/\(∀j∈T,H.size<=j)/\(∀j∈blks e,H.size<=j)/\Ext H g):=
 HC.mono (oD x z y l m i) (by
  rintro v g ⟨e,f,c,T,L,n,p,q,r,s,t,u,_⟩
  exact⟨e,f,c,T,L,n,p,q,r,s,t,u⟩)
