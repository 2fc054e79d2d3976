/-
 moraineref17.Read.Datum, whole: readG of the picture's view. Proves nothing of any one statement.
-/
import Derived.Test.YtibpklpgmgakcaaGreatDoorTellsC
set_option linter.unusedVariables false
set_option linter.unusedSimpArgs false
set_option maxHeartbeats 1000000
namespace Go.Proofs.YtibpklpgmgakcaaGreatDoor
open Go

set_option maxRecDepth 20000 in
theorem ref_datum_c(f:Nat):DatumT f:=by
 induction f with
 | zero=>intro P0 H rb n k deep T B N C ts ths p g hrb hP hk hn hf hd;omega
 | succ f ih=>
 intro P0 H rb n k deep T B N C ts ths p g hrb hP hk hn hf hd
 refine HC.via λR hR=>moraineref17_Read_Datum.link ?_
 unfold moraineref17_Read_Datum.pt
 generalize hr:readG (viewT ths) (f+1) n k deep=r at hR
 unfold readG at hr
 intro b H1 hb hH1
 have e1:=Ext.push' hH1
 have g1:=push_get hb hH1
 have hb1:=lt_size g1
 have hrl:=lt_size g
 have hs1:=e1.size
 have hbP: ¬P0 b:=λh=>by have:=hP b h;omega
 have fin: ∀(u:Dv) (er:Int) (A:Array Obj),A[b]?=some (.cells (leafV 0 0).cells.toArray 51 (0,0))->Fr [rb] H A->er=r.1->(r.1=0->A[rb]?=some (.cells #[.int .i64 r.2.2] T (0,0))/\DatAt (λj=>P0 j\/(H1.size<=j/\j<A.size)) A u r.2.1)->(r.1≠0->u=leafV 0 0)->
   (CanPuts A (Addr.mk b 0 none) 0 6)/\ ∀A':Array Obj,A'=hputs A (Addr.mk b 0 none) u.cells 0->
    ∃rK:Int,∃rC:Int,∃rN:Bool,∃rB:Option Addr,∃rM:Nat,∃rD:Nat,∃rT:ByteArray,∃rE:Option Addr,∃rF:Nat,∃rG:Nat,RowAt A' (Addr.mk b 0 none) 0 [.int .i64 rK,.int .i32 rC,.bool rN,.slice rB rM rD,.string rT,.slice rE rF rG]/\
    R (.tuple #[.agg #[.int .i64 rK,.int .i32 rC,.bool rN,.slice rB rM rD,.string rT,.slice rE rF rG],.int .i64 er]) A':=λu er A gbA fA her hok hno=>by
  subst her
  obtain⟨s5,p5⟩:=box_set (vs:=u.cells) gbA rfl rfl
  refine⟨s5,λA' hA'=>?_⟩
  obtain⟨g5,f5⟩:=p5 A' hA'
  refine⟨_,_,_,_,_,_,_,_,_,_,box_row g5,hR _ _ ⟨u,rfl,fA.trans' f5 (λi hi _=>hi) (λi hi _=>by simp at hi;omega),λhz=>?_,hno⟩⟩
  obtain⟨o1,o2⟩:=hok hz
  have hsA:=f5.size
  refine⟨f5.get (by simp;omega) o1,o2.keep f5 (λi hi hp=>?_) (λj hj=>hj.imp id (λh=>⟨by omega,by omega⟩))⟩
  simp at hi;subst hi
  rcases hp with h | h
  ·exact hbP h
  ·omega
 refine⟨_,rfl,_,hat_box0 (e1.get g) rfl,?_⟩
 obtain⟨s2,p2⟩:=box_put (e1.get g) 0 (.int .i64 (n+1)) (by show 0<1;omega)
 rw[show(Addr.mk rb 0 none).add 0=Addr.mk rb 0 none from rfl]at s2 p2
 rw[w64 (n:=n+1) (by omega)]
 refine⟨s2,λH2 hH2=>?_⟩
 obtain⟨g2,f2⟩:=p2 H2 hH2
 have hs2:=f2.size
 refine⟨_,hat_box0 g2 rfl,?_⟩
 have gb2:=f2.get (by simp;omega) g1
 have f02:Fr [rb] H H2:=(e1.fr (S:=[rb])).trans f2
 have nrb: ∀i∈[rb],¬P0 i:=λi hi=>by simp at hi;subst hi;exact hrb
 by_cases h4:4096<n+1
 ·rw[if_pos h4]at hr
  rw[if_pos (show n+1>4096 by omega)]
  exact fin (leafV 0 0) 6 H2 gb2 f02 (by rw[<-hr]) (λh=>by rw[<-hr]at h;cases h) (λ_=>rfl)
 rw[if_neg h4]at hr
 rw[if_neg (show¬n+1>4096 by omega)]
 have hk1:k.toNat<ths.length:=by rw[p.tlen];omega
 have hk2:k.toNat<ts.length:=by rw[p.len];omega
 have p2':=p.keep f02 nrb
 obtain⟨a,ha,hrow⟩:=p2'.row _ hk2
 obtain⟨hlN,_,_⟩:=p.ints _ hk2 hk1
 subst ha
 refine⟨a,rfl,hk,_,_,_,_,_,_,_,_,_,_,_,_,_,hrow,λb2 H4 hb2 hH4=>?_⟩
 obtain⟨s5,p5⟩:=box_new (vs:=ts[k.toNat].cells) hb2 hH4 rfl rfl
 refine⟨s5,λH5 hH5=>?_⟩
 obtain⟨g5,e5⟩:=p5 H5 hH5
 have hs5:=e5.size
 have gb5:=e5.get gb2
 have gr5:=e5.get g2
 have f05:Fr [rb] H H5:=f02.trans e5.fr
 have pp5:=p.keep f05 nrb
 have hP5: ∀i,P0 i->i<H5.size:=λi hi=>by have:=hP i hi;omega
 have hb2l:=lt_size g5
 refine⟨_,hat_box0 g5 rfl,?_⟩
 rw[(p.dat _ hk2 hk1).vkind]
 have hv:=viewT_at hk1
 by_cases hm:ths[k.toNat].1.kind= -1
 ·rw[if_pos hm]at hv⊢
  rw[hv]at hr
  subst hr
  exact fin (leafV 0 0) 3 H5 gb5 f05 rfl (λh=>absurd (show(3:Int)=0 from h) (by decide)) (λ_=>rfl)
 rw[if_neg hm]at hv⊢
 by_cases h8:ths[k.toNat].1.kind=8
 ·rw[if_pos h8]at hv⊢
  rw[hv]at hr
  simp only at hr
  by_cases h64:deep=64
  ·rw[if_pos h64]at hr⊢
   subst hr
   exact fin (leafV 0 0) 10 H5 gb5 f05 rfl (λh=>absurd (show(10:Int)=0 from h) (by decide)) (λ_=>rfl)
  rw[if_neg h64]at hr⊢
  intro b3 H8 hb3 hH8
  obtain⟨s9,p9⟩:=box_new (vs:=(vecV none 0 0).cells) hb3 hH8 rfl rfl
  refine⟨s9,λH9 hH9=>?_⟩
  obtain⟨g9,e9⟩:=p9 H9 hH9
  have hs9:=e9.size
  have hb3l:=lt_size g9
  have hb3':b3=H5.size:=hb3
  have f09:Fr [rb] H H9:=f05.trans e9.fr
  have hrange:=p.range _ hk1
  have hl5:=p.vec _ hk1
  generalize hws:ths[k.toNat].2=ws at hr hlN hrange hl5
  refine⟨λs A=> ∃(us:List Dv) (ds:List Dt) (B:Option Addr) (c:Nat) (n1:Int),s=us.length/\us.length<=ws.length/\(Fr [rb] H A/\H9.size<=A.size)/\A[b]?=some (.cells (leafV 0 0).cells.toArray 51 (0,0))/\A[b2]?=some (.cells ts[k.toNat].cells.toArray 70 (0,0))/\A[b3]?=some (.cells (vecV B us.length c).cells.toArray 51 (0,0))/\RowP P0 H9.size A B us.length c us ds/\
    A[rb]?=some (.cells #[.int .i64 n1] T (0,0))/\(n+1<=n1/\n1<=4096)/\vecG (λn w=>readG (viewT ths) f n w (deep+1)) n1 (ws.drop us.length) ds=r,λs _=>(ws.length-s).toNat,
   ⟨[],[],none,0,n+1,rfl,Nat.zero_le _,⟨f09,Nat.le_refl _⟩,e9.get gb5,e9.get g5,g9,RowP.nil (λi hi=>by have:=hP i hi;omega),e9.get gr5,⟨Int.le_refl _,by omega⟩,hr⟩,?_⟩
  rintro s A ⟨us,ds,B2,c,n1,rfl,hul,⟨fA,hA9⟩,gbA,g2A,g3A,hrowA,gA,hn1,hrr⟩
  have hsA:=fA.size
  have pA:=p.keep fA nrb
  have hPA: ∀i,P0 i->i<A.size:=λi hi=>by have:=hP i hi;omega
  obtain⟨hlNA,hsrc,_⟩:=pA.ints _ hk2 hk1
  rw[hws]at hsrc
  refine⟨_,_,_,by rw[box_get g2A];rfl,?_⟩
  rw[hlN]
  by_cases hlt:(us.length:Int)< (ws.length:Int)
  ·rw[if_pos hlt]
   have hlt':us.length<ws.length:=by omega
   rw[List.drop_eq_getElem_cons hlt']at hrr
   unfold vecG at hrr
   obtain⟨xA,hxA,hat0⟩:=ivs_hat hsrc hlt'
   rw[getD_at hlt']at hat0
   have hkw:=hrange ws[us.length] (List.getElem_mem hlt')
   refine⟨_,_,_,by rw[box_get g2A];rfl,xA,hxA,⟨by omega,by rw[hlN];exact hlt⟩,_,hat0,?_⟩
   rw[w64 (n:=deep+1) (by omega)]
   refine HC.mono (ih pA gA hrb hPA hkw (by omega) (by omega) (by omega)) ?_
   rintro _ H11 ⟨u,rfl,f11,hok,_⟩
   refine⟨_,_,_,_,_,_,_,_,_,_,_,rfl,λb4 H12 hb4 hH12=>?_⟩
   obtain⟨s13,p13⟩:=box_new (vs:=u.cells) hb4 hH12 rfl rfl
   refine⟨s13,λH13 hH13=>?_⟩
   obtain⟨g13,e13⟩:=p13 H13 hH13
   have hs11:=f11.size
   have hs13:=e13.size
   have hbA:=lt_size gbA
   have hb2A:=lt_size g2A
   have hb3A:=lt_size g3A
   have f1113:Fr [rb] A H13:=f11.trans e13.fr
   have f13:Fr [rb] H H13:=fA.trans f1113
   have gb13:=f1113.get (by simp;omega) gbA
   have g213:=f1113.get (by simp;omega) g2A
   have g313:=f1113.get (by simp;omega) g3A
   by_cases hz:(readG (viewT ths) f n1 ws[us.length] (deep+1)).1=0
   ·rw[if_pos hz]
    rw[if_pos hz]at hrr
    obtain⟨gr11,D11⟩:=hok hz
    have hbd:=readG_bd (viewT ths) (λw e h=>viewT_bad h) f n1 ws[us.length] (deep+1) hz
    refine⟨B2,us.length,c,by rw[box_get g313];rfl,_,_,_,_,_,_,_,_,_,_,box_row g13,λb5 H14 hb5 hH14=>?_⟩
    have e14:=Ext.push' hH14
    have hs14:=e14.size
    have hrow14:RowP P0 H9.size H14 B2 us.length c us ds:=(hrowA.keep f1113 (λi hi=>⟨by simp at hi;omega,nrb i hi⟩)).ext e14
    have hB7: ∀i∈blks B2,H9.size<=i/\i<A.size:=λi hi=>⟨hrowA.row i hi,hrowA.own.lt i hi⟩
    refine own_append (ys:=u.cells) hrow14.own (rowAt_blk (push_get hb5 hH14) _ 0 0 (λj hj=>by simp)) rfl (by rfl) rfl (by omega) ?_
    intro p' c' H15 ho15 f15 hnew
    have hs15:=f15.size
    have g315:=f15.get (λhi=>by have:=hB7 _ hi;omega) (e14.get g313)
    obtain⟨c16,p16⟩:=box_put g315 5 (.slice p' (us.length+1) c') (by show 5<6;omega)
    refine⟨c16,λH16 hH16=>?_⟩
    obtain⟨g16,f16⟩:=p16 H16 hH16
    have hs16:=f16.size
    have D14:DatAt (λj=>P0 j\/(A.size<=j/\j<H14.size)) H14 u _:=D11.keep (S:=[]) (e13.trans e14).fr (by simp) (λj hj=>hj.imp id (λh=>⟨h.1,by have:=h.2;omega⟩))
    have hrow15:=hrow14.push f15 ho15 hnew (by omega) D14 (by omega) (λi hi=>by have:=hB7 i hi;omega)
    have nb3: ¬P0 b3:=λh=>by have:=hP b3 h;omega
    have hrow16:=hrow15.keep f16 (λi hi=>by simp at hi;subst hi;exact⟨by omega,nb3⟩)
    have f1316: ∀{i:Nat},i<A.size->i ∉ blks B2->i≠b3-> ∀{o:Obj},H13[i]?=some o->H16[i]?=some o:=λh1 h2 h3 o ho=>f16.get (by simp;omega) (f15.get h2 (e14.get ho))
    refine⟨⟨us++[u],ds++[_],p',c',_,by rw[w64 (by omega)];simp,by simp;omega,?_,?_,?_,?_,by simpa using hrow16,?_,?_,by simpa using hrr⟩,by rw[w64 (by omega)];show((ws.length:Int)-((us.length:Int)+1)).toNat< ((ws.length:Int)-(us.length:Int)).toNat;omega⟩
    ·exact⟨((f13.trans e14.fr).trans' f15 (λi hi _=>hi) (λi hi hl=>by have:=hB7 i hi;omega)).trans' f16 (λi hi _=>hi) (λi hi hl=>by simp at hi;omega),by omega⟩
    ·exact f1316 hbA (λhi=>by have:=hB7 _ hi;omega) (by omega) gb13
    ·exact f1316 hb2A (λhi=>by have:=hB7 _ hi;omega) (by omega) g213
    ·rw[show(us++[u]).length=us.length+1 by simp];exact g16
    ·exact f1316 (by omega) (λhi=>by have:=hB7 _ hi;omega) (by omega) (e13.get gr11)
    ·omega
   ·rw[if_neg hz]
    rw[if_neg hz]at hrr
    subst hrr
    exact fin (leafV 0 0) _ H13 gb13 f13 rfl (λh=>absurd h hz) (λ_=>rfl)
  ·rw[if_neg hlt]
   rw[List.drop_eq_nil_of_le (by omega)]at hrr
   unfold vecG at hrr
   subst hrr
   refine⟨_,_,_,_,_,_,_,_,_,_,box_row g3A,fin (vecV B2 us.length c) 0 A gbA fA rfl (λ_=>⟨gA,(hrowA.vec (by omega)).keep (S:=[]) (Fr.refl _ _) (by simp) (λj hj=>hj.imp id (λh=>⟨by have:=h.1;omega,h.2⟩))⟩) (λh=>absurd rfl h)⟩
 rw[if_neg h8]at hv⊢
 by_cases h7:ths[k.toNat].1.kind=7
 ·rw[if_pos h7]at hv⊢
  rw[hv]at hr
  simp only at hr
  by_cases h64:deep=64
  ·rw[if_pos h64]at hr⊢
   subst hr
   exact fin (leafV 0 0) 10 H5 gb5 f05 rfl (λh=>absurd (show(10:Int)=0 from h) (by decide)) (λ_=>rfl)
  rw[if_neg h64]at hr⊢
  refine HC.mono (ref_rest_c ih pp5 gr5 hrb hP5 hk (by omega) (by omega) (by omega) ((viewT_pair hk1).2 h7)) ?_
  rw[hr]
  rintro _ H20 ⟨u,rfl,f20,hok,hno⟩
  have hs20:=f20.size
  refine⟨_,_,_,_,_,_,_,_,_,_,_,rfl,fin u r.1 H20 (f20.get (by simp;omega) gb5) (f05.trans f20) rfl (λhz=>⟨(hok hz).1,(hok hz).2.keep (S:=[]) (Fr.refl _ _) (by simp) (λj hj=>hj.imp id (λh=>⟨by have:=h.1;omega,h.2⟩))⟩) hno⟩
 rw[if_neg h7]at hv⊢
 rw[hv]at hr
 subst hr
 refine⟨_,_,_,_,_,_,_,_,_,_,RowAt.sub (us:=ts[k.toNat].d.cells) 0 (box_row g5) rfl,fin ts[k.toNat].d 0 H5 gb5 f05 rfl (λ_=>⟨gr5,(pp5.dat _ hk2 hk1).keep (S:=[]) (Fr.refl _ _) (by simp) (λj hj=> .inl hj)⟩) (λh=>absurd rfl h)⟩
end Go.Proofs.YtibpklpgmgakcaaGreatDoor
