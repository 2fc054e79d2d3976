/-
 moraineref17.Read: what the document reads of a picture is readG of its view. Proves nothing of any one statement.
-/
import Derived.Test.YtibpklpgmgakcaaGreatDoorTellsA
set_option linter.unusedVariables false
set_option linter.unusedSimpArgs false
set_option maxHeartbeats 1000000
namespace Go.Proofs.YtibpklpgmgakcaaGreatDoor
open Go

theorem if_neg_e{α:Type}{c:Prop}{d:Decidable c}{a b r:α}(h: ¬c)(e: @ite α c d a b=r):b=r:=by rw[if_neg h]at e;exact e
theorem if_pos_e{α:Type}{c:Prop}{d:Decidable c}{a b r:α}(h:c)(e: @ite α c d a b=r):a=r:=by rw[if_pos h]at e;exact e
theorem chainG_pair{rd:Int->Int->RdOut}{vw:Int->NodeV}{f:Nat}{n w a d:Int}{acc:List Dt}(h:vw w=.pair a d):chainG rd vw (f+1) n w acc=
  if(rd n a).1=0 then
   (if(vw d).isP=true then(if 4096< (rd n a).2.2+1 then(6,zD,0)else chainG rd vw f ((rd n a).2.2+1) d (acc++[(rd n a).2.1]))
   else if(rd (rd n a).2.2 d).1=0 then(0,consD (acc++[(rd n a).2.1]) (rd (rd n a).2.2 d).2.1,(rd (rd n a).2.2 d).2.2)else((rd (rd n a).2.2 d).1,zD,0))
  else((rd n a).1,zD,0):=by
 rw[chainG,h];rfl
theorem viewT_at{ths:List (Dt×List Int)}{k:Int}(h:k.toNat<ths.length):viewT ths k=if ths[k.toNat].1.kind= -1 then .bad 3 else if ths[k.toNat].1.kind=8 then .vec ths[k.toNat].2 else if ths[k.toNat].1.kind=7 then .pair (ths[k.toNat].2.getD 0 0) (ths[k.toNat].2.getD 1 0)else .leaf ths[k.toNat].1:=by
 unfold viewT
 rw[List.getElem?_eq_getElem h]
theorem viewT_pair{ths:List (Dt×List Int)}{k:Int}(h:k.toNat<ths.length):(viewT ths k).isP=true ↔ ths[k.toNat].1.kind=7:=by
 rw[viewT_at h]
 constructor
 ·intro hp
  split at hp
  ·cases hp
  split at hp
  ·cases hp
  split at hp
  ·assumption
  ·cases hp
 ·intro h7
  rw[if_neg (by omega),if_neg (by omega),if_pos h7];rfl
theorem viewT_parts{ths:List (Dt×List Int)}{k:Int}(h:k.toNat<ths.length)(h7:ths[k.toNat].1.kind=7):viewT ths k=.pair (ths[k.toNat].2.getD 0 0) (ths[k.toNat].2.getD 1 0):=by
 rw[viewT_at h,if_neg (by omega),if_neg (by omega),if_pos h7]
theorem ivs_hat{H:Array Obj}{p:Option Addr}{l:List Int}(h:SrcAt H p (ivs l)){i:Nat}(hi:i<l.length): ∃a,p=some a/\hat H (a.add (i*1))=some (.int .i64 (l.getD i 0)):=by
 cases hp:p with
 | none=>rw[hp]at h;simp[ivs]at h;subst h;simp at hi
 | some a=>
  rw[hp]at h
  refine⟨a,rfl,?_⟩
  have:=rowAt_hat (show RowAt H a 0 (ivs l)from h) i (.int .i64 (l.getD i 0)) (by simp[ivs,hi])
  simpa using this
def RtPost(P0:Nat->Prop)(H:Array Obj)(rb:Nat)(T:TypeId)(r:RdOut)(v:Value)(H':Array Obj):Prop:=
 ∃(u:Dv),v=.tuple #[.agg u.cells.toArray,.int .i64 r.1]/\Fr [rb] H H'/\(r.1=0->H'[rb]?=some (.cells #[.int .i64 r.2.2] T (0,0))/\DatAt (λj=>P0 j\/Yng H H' j) H' u r.2.1)/\(r.1≠0->u=leafV 0 0)
def DatumT(f:Nat):Prop:= ∀{P0:Nat->Prop} {H:Array Obj} {rb:Nat} {n k deep:Int} {T:TypeId} {B:Option Addr} {N C:Nat} {ts:List TV} {ths:List (Dt×List Int)} (p:Pict P0 H B N ts ths) (g:H[rb]?=some (.cells #[.int .i64 n] T (0,0))) (hrb: ¬P0 rb) (hP: ∀i,P0 i->i<H.size) (hk:0<=k/\k<N) (hn:0<=n/\n<=4096) (hf:4097-n<=f) (hd:0<=deep/\deep<=64),
  moraineref17_Read_Datum.C (some ⟨rb,0,none⟩) B N C k deep H (RtPost P0 H rb T (readG (viewT ths) f n k deep))
set_option maxRecDepth 20000 in
theorem ref_rest_c{f:Nat}(ih:DatumT f){P0:Nat->Prop}{H:Array Obj}{rb:Nat}{n k deep:Int}{T:TypeId}{B:Option Addr}{N C:Nat}{ts:List TV}{ths:List (Dt×List Int)}(p:Pict P0 H B N ts ths)(g:H[rb]?=some (.cells #[.int .i64 n] T (0,0)))(hrb: ¬P0 rb)(hP: ∀i,P0 i->i<H.size)(hk:0<=k/\k<N)(hn:0<=n/\n<=4096)(hf:4097-n<=f)(hd:0<=deep/\deep<64)(hp:(viewT ths k).isP=true):
  moraineref17_Read_rest.C (some ⟨rb,0,none⟩) B N C k deep H (RtPost P0 H rb T (chainG (λn w=>readG (viewT ths) f n w (deep+1)) (viewT ths) f n k [])):=by
 refine HC.via λR hR=>moraineref17_Read_rest.link ?_
 unfold moraineref17_Read_rest.pt
 generalize hr:chainG (λn w=>readG (viewT ths) f n w (deep+1)) (viewT ths) f n k []=r at hR
 intro b H1 hb hH1
 have e1:=Ext.push' hH1
 have g1:=push_get hb hH1
 have hb1:=lt_size g1
 have hrl:=lt_size g
 have hs1:=e1.size
 have hbP: ¬P0 b:=λh=>by have:=hP b h;omega
 have fin: ∀(u:Dv) (er:Int) (A:Array Obj),A[b]?=some (.cells (leafV 0 0).cells.toArray 51 (0,0))->Fr [rb] H A->er=r.1->(r.1=0->A[rb]?=some (.cells #[.int .i64 r.2.2] T (0,0))/\DatAt (λj=>P0 j\/(H1.size<=j/\j<A.size)) A u r.2.1)->(r.1≠0->u=leafV 0 0)->
   (CanPuts A (Addr.mk b 0 none) 0 6)/\ ∀A':Array Obj,A'=hputs A (Addr.mk b 0 none) u.cells 0->
    ∃rK:Int,∃rC:Int,∃rN:Bool,∃rB:Option Addr,∃rM:Nat,∃rD:Nat,∃rT:ByteArray,∃rE:Option Addr,∃rF:Nat,∃rG:Nat,RowAt A' (Addr.mk b 0 none) 0 [.int .i64 rK,.int .i32 rC,.bool rN,.slice rB rM rD,.string rT,.slice rE rF rG]/\
    R (.tuple #[.agg #[.int .i64 rK,.int .i32 rC,.bool rN,.slice rB rM rD,.string rT,.slice rE rF rG],.int .i64 er]) A':=λu er A gbA fA her hok hno=>by
  subst her
  obtain⟨s5,p5⟩:=box_set (vs:=u.cells) gbA rfl rfl
  refine⟨s5,λA' hA'=>?_⟩
  obtain⟨g5,f5⟩:=p5 A' hA'
  refine⟨_,_,_,_,_,_,_,_,_,_,box_row g5,hR _ _ ⟨u,rfl,fA.trans' f5 (λi hi _=>hi) (λi hi _=>by simp at hi;omega),λhz=>?_,hno⟩⟩
  obtain⟨o1,o2⟩:=hok hz
  have hsA:=f5.size
  refine⟨f5.get (by simp;omega) o1,o2.keep f5 (λi hi hp=>?_) (λj hj=>hj.imp id (λh=>⟨by omega,by omega⟩))⟩
  simp at hi;subst hi
  rcases hp with h | h
  ·exact hbP h
  ·omega
 refine⟨λw1 cB cN c A=> ∃(us:List Dv) (ds:List Dt) (n1:Int) (f1:Nat),cN=us.length/\(Fr [rb] H A/\H1.size<=A.size)/\A[b]?=some (.cells (leafV 0 0).cells.toArray 51 (0,0))/\RowP P0 H1.size A cB us.length c us ds/\A[rb]?=some (.cells #[.int .i64 n1] T (0,0))/\
   ((n<=n1/\n1<=4096)/\us.length<=n1/\4097-n1<=f1)/\((0<=w1/\w1<N)/\(viewT ths w1).isP=true)/\chainG (λn w=>readG (viewT ths) f n w (deep+1)) (viewT ths) f1 n1 w1 ds=r,λ_ _ cN _ _=>5000-cN,
  ⟨[],[],n,f,rfl,⟨e1.fr,Nat.le_refl _⟩,g1,RowP.nil (λi hi=>by have:=hP i hi;omega),e1.get g,⟨⟨Int.le_refl _,hn.2⟩,by simp;omega,hf⟩,⟨hk,hp⟩,hr⟩,?_⟩
 rintro w1 cB cN c A ⟨us,ds,n1,f1,rfl,⟨fA,hA1⟩,gbA,hrow,gA,⟨hn1,hun,hf1⟩,⟨hw1,hp1⟩,hrr⟩
 have nrb: ∀i∈[rb],¬P0 i:=λi hi=>by simp at hi;subst hi;exact hrb
 have pA:=p.keep fA nrb
 have hPA: ∀i,P0 i->i<A.size:=λi hi=>by have:=hP i hi;omega
 have hk1:w1.toNat<ths.length:=by rw[p.tlen];omega
 have hk2:w1.toNat<ts.length:=by rw[p.len];omega
 have h7:=(viewT_pair hk1).1 hp1
 have hl2:=p.pair _ hk1 h7
 have hv1:=viewT_parts hk1 h7
 obtain⟨f1,rfl⟩: ∃f2,f1=f2+1:=⟨f1-1,by omega⟩
 have hra0:=p.range _ hk1 (ths[w1.toNat].2.getD 0 0) (by rw[List.getD,List.getElem?_eq_getElem (by omega)];exact List.getElem_mem _)
 have hrd0:=p.range _ hk1 (ths[w1.toNat].2.getD 1 0) (by rw[List.getD,List.getElem?_eq_getElem (by omega)];exact List.getElem_mem _)
 obtain⟨aB,haB,hrowA⟩:=pA.row _ hk2
 obtain⟨hlN,hsA,_⟩:=pA.ints _ hk2 hk1
 obtain⟨xA,hxA,hat0⟩:=ivs_hat hsA (i:=0) (by omega)
 generalize ha:ths[w1.toNat].2.getD 0 0=a at*
 generalize hdw:ths[w1.toNat].2.getD 1 0=d at*
 rw[chainG_pair hv1]at hrr
 subst haB
 refine⟨aB,rfl,hw1,_,_,_,rowAt_hat hrowA 6 _ rfl,xA,hxA,⟨by decide,by rw[hlN];omega⟩,_,hat0,?_⟩
 rw[w64 (n:=deep+1) (by omega)]
 refine HC.mono (ih pA gA hrb hPA (by omega) (by omega) (by omega) (by omega)) ?_
 rintro _ H3 ⟨u,rfl,f3,hok,_⟩
 refine⟨_,_,_,_,_,_,_,_,_,_,_,rfl,λb2 H4 hb2 hH4=>?_⟩
 obtain⟨s5,p5⟩:=box_new (vs:=u.cells) hb2 hH4 rfl rfl
 refine⟨s5,λH5 hH5=>?_⟩
 obtain⟨g5,e5⟩:=p5 H5 hH5
 have hbA:=lt_size gbA
 have fA5:Fr [rb] A H5:=f3.trans e5.fr
 have f5:Fr [rb] H H5:=fA.trans fA5
 have gb5:=fA5.get (by simp;omega) gbA
 have hs3:=f3.size
 have hs5:=e5.size
 by_cases hz:(readG (viewT ths) f n1 a (deep+1)).1=0
 case neg=>
  rw[if_neg hz]
  replace hrr:=if_neg_e hz hrr
  exact fin (leafV 0 0) _ H5 gb5 f5 (by rw[<-hrr]) (λh=>absurd (by rw[<-hrr]at h;exact h) hz) (λ_=>rfl)
 rw[if_pos hz]
 replace hrr:=if_pos_e hz hrr
 obtain⟨g3,D3⟩:=hok hz
 have hbd:=readG_bd (viewT ths) (λw e h=>viewT_bad h) f n1 a (deep+1) hz
 generalize hn2:(readG (viewT ths) f n1 a (deep+1)).2.2=n2 at hrr g3 hbd
 generalize hd2:(readG (viewT ths) f n1 a (deep+1)).2.1=d2 at hrr D3
 have hn2b:=hbd.2 hn1.2
 refine⟨_,_,_,_,_,_,_,_,_,_,box_row g5,λb3 H6 hb3 hH6=>?_⟩
 have e6:=Ext.push' hH6
 have hs6:=e6.size
 have hrow6:RowP P0 H1.size H6 cB us.length c us ds:=(hrow.keep fA5 (λi hi=>⟨by simp at hi;omega,nrb i hi⟩)).ext e6
 have hB: ∀i∈blks cB,H1.size<=i/\i<A.size:=λi hi=>⟨hrow.row i hi,hrow.own.lt i hi⟩
 refine own_append (ys:=u.cells) hrow6.own (rowAt_blk (push_get hb3 hH6) _ 0 0 (λj hj=>by simp)) rfl (by rfl) rfl (by omega) ?_
 intro p' c' H7 ho7 f7 hnew
 have hs7:=f7.size
 have D6:DatAt (λj=>P0 j\/(A.size<=j/\j<H6.size)) H6 u d2:=D3.keep (S:=[]) (e5.trans e6).fr (by simp) (λj hj=>hj.imp id (λh=>⟨h.1,by have:=h.2;omega⟩))
 have hrow7:=hrow6.push f7 ho7 hnew (by omega) D6 (by omega) (λi hi=>(hB i hi).2)
 have fB: ∀i∈blks cB,¬P0 i:=λi hi h=>by have:=hP i h;have:=(hB i hi).1;omega
 have f57:Fr [rb] H H7:=(f5.trans e6.fr).trans' f7 (λi hi _=>hi) (λi hi hl=>by have:=hB i hi;omega)
 have gb7:=f7.get (λhi=>by have:=hB _ hi;omega) (e6.get gb5)
 have g7:H7[rb]?=_:=f7.get (λhi=>by have:=hB _ hi;omega) (e6.get (e5.get g3))
 have p7:=((pA.keep (fA5.trans e6.fr) nrb)).keep f7 fB
 have hP7: ∀i,P0 i->i<H7.size:=λi hi=>by have:=hP i hi;omega
 obtain⟨aB',haB',hrow7A⟩:=p7.row _ hk2
 cases haB'
 obtain⟨hlN7,hs7A,_⟩:=p7.ints _ hk2 hk1
 obtain⟨xA7,hxA7,hat1⟩:=ivs_hat hs7A (i:=1) (by omega)
 rw[hdw]at hat1
 have hd1:d.toNat<ths.length:=by rw[p.tlen];omega
 have hd2':d.toNat<ts.length:=by rw[p.len];omega
 obtain⟨aB'',haB'',hrowD⟩:=p7.row _ hd2'
 cases haB''
 refine⟨hw1,_,_,_,rowAt_hat hrow7A 6 _ rfl,xA7,hxA7,⟨by decide,by rw[hlN7];omega⟩,_,hat1,hrd0,_,by have:=rowAt_hat hrowD 0 _ rfl;rw[Nat.add_zero,addr_plus0]at this;exact this,?_⟩
 rw[(p7.dat _ hd2' hd1).vkind]
 by_cases hpd:(viewT ths d).isP=true
 case pos=>
  replace hrr:=if_pos_e hpd hrr
  rw[if_pos ((viewT_pair hd1).1 hpd)]
  refine⟨_,rfl,_,hat_box0 g7 rfl,?_⟩
  obtain⟨s8,p8⟩:=box_put g7 0 (.int .i64 (n2+1)) (by show 0<1;omega)
  rw[show(Addr.mk rb 0 none).add 0=Addr.mk rb 0 none from rfl]at s8 p8
  rw[w64 (n:=n2+1) (by omega)]
  refine⟨s8,λH8 hH8=>?_⟩
  obtain⟨g8,f8⟩:=p8 H8 hH8
  have hs8:=f8.size
  refine⟨_,hat_box0 g8 rfl,?_⟩
  have gb8:=f8.get (by simp;omega) gb7
  have f08:Fr [rb] H H8:=f57.trans f8
  by_cases h4:4096<n2+1
  ·replace hrr:=if_pos_e h4 hrr
   rw[if_pos (show n2+1>4096 by omega)]
   exact fin (leafV 0 0) 6 H8 gb8 f08 (by rw[<-hrr]) (λh=>by rw[<-hrr]at h;cases h) (λ_=>rfl)
  ·replace hrr:=if_neg_e h4 hrr
   rw[if_neg (show¬n2+1>4096 by omega)]
   refine⟨⟨us++[u],ds++[d2],n2+1,f1,by simp,⟨f08,by omega⟩,gb8,?_,g8,⟨⟨by omega,by omega⟩,by simp;omega,by omega⟩,⟨hrd0,hpd⟩,hrr⟩,by show 5000-(us.length+1)<5000-us.length;omega⟩
   have:=hrow7.keep f8 (λi hi=>⟨by simp at hi;omega,nrb i hi⟩)
   simpa using this
 case neg=>
  replace hrr:=if_neg_e hpd hrr
  rw[if_neg (λh=>hpd ((viewT_pair hd1).2 h))]
  refine HC.mono (ih p7 g7 hrb hP7 hrd0 (by omega) (by omega) (by omega)) ?_
  rintro _ H10 ⟨u4,rfl,f10,hok4,_⟩
  refine⟨_,_,_,_,_,_,_,_,_,_,_,rfl,λb4 H11 hb4 hH11=>?_⟩
  obtain⟨s12,p12⟩:=box_new (vs:=u4.cells) hb4 hH11 rfl rfl
  refine⟨s12,λH12 hH12=>?_⟩
  obtain⟨g12,e12⟩:=p12 H12 hH12
  have hs10:=f10.size
  have hs12:=e12.size
  have f712:Fr [rb] H7 H12:=f10.trans e12.fr
  have f12:Fr [rb] H H12:=f57.trans f712
  have gb12:=f712.get (by simp;omega) gb7
  generalize hq:readG (viewT ths) f n2 d (deep+1)=q at hrr hok4⊢
  by_cases hz4:q.1=0
  case neg=>
   rw[if_neg hz4]
   replace hrr:=if_neg_e hz4 hrr
   exact fin (leafV 0 0) q.1 H12 gb12 f12 (by rw[<-hrr]) (λh=>absurd (by rw[<-hrr]at h;exact h) hz4) (λ_=>rfl)
  rw[if_pos hz4]
  replace hrr:=if_pos_e hz4 hrr
  obtain⟨g10,D10⟩:=hok4 hz4
  have hrow12:=hrow7.keep f712 (λi hi=>⟨by simp at hi;omega,nrb i hi⟩)
  have hb4':b4=H10.size:=hb4
  have hb4P: ¬P0 b4:=λh=>by have:=hP b4 h;omega
  have hus:(us++[u]).length=us.length+1:=by simp
  have hdl:(ds++[d2]).length=us.length+1:=by have:=hrow7.dlen;simpa using this
  rw[show(((us.length:Nat):Int)+1-1)=us.length by omega,w64 (n:=(us.length:Int)) (by omega)]
  refine⟨λi A'=>(-1<=i/\i<=us.length)/\ ∃u':Dv,A'[b4]?=some (.cells u'.cells.toArray 51 (0,0))/\Fr [b4] H12 A'/\DatAt (λj=>(P0 j\/(H1.size<=j/\j<A'.size))/\j≠b4) A' u' (consD ((ds++[d2]).drop (i+1).toNat) q.2.1),λi _=>(i+1).toNat,
   ⟨⟨by omega,Int.le_refl _⟩,u4,g12,Fr.refl _ _,?_⟩,?_⟩
  ·rw[List.drop_eq_nil_of_le (by omega)]
   exact D10.keep (S:=[]) e12.fr (by simp) (λj hj=>⟨hj.imp id (λh=>⟨by have:=h.1;omega,by have:=h.2;omega⟩),λe=>by
    subst e
    rcases hj with h | h
    ·exact hb4P h
    ·have:=h.2;omega⟩)
  rintro i H13 ⟨hi,u',g13,f13,hD⟩
  have hs13:=f13.size
  have hlt4:=lt_size g12
  by_cases hi0:i>=0
  ·rw[if_pos hi0]
   have hin:i.toNat< (us++[u]).length:=by rw[hus];omega
   have ho13:=hrow12.own.keep f13 (λj hj h=>by simp at h;have:=hrow7.own.lt j hj;omega)
   obtain⟨a5,ha5,_,hrow5⟩:=ho13.elem (f:=Dv.cells) (λ_=>rfl) (by decide) hin
   refine⟨a5,ha5,⟨hi0,by omega⟩,_,_,_,_,_,_,_,_,_,_,hrow5,_,_,_,_,_,_,_,_,_,_,box_row g13,λb5 H14 hb5 hH14=>?_⟩
   have e14:=Ext.push' hH14
   have g14:=push_get hb5 hH14
   have hs14:=e14.size
   have hl14:=lt_size g14
   obtain⟨s15,p15⟩:=box_set (vs:=(pairV b5).cells) (e14.get g13) rfl rfl
   refine⟨s15,λH15 hH15=>?_⟩
   obtain⟨g15,f15⟩:=p15 H15 hH15
   have hs15:=f15.size
   rw[w64 (n:=i-1) (by omega)]
   refine⟨⟨by omega,pairV b5,g15,(f13.trans e14.fr).trans f15,?_⟩,by show(i-1+1).toNat< (i+1).toNat;omega⟩
   have hind:i.toNat< (ds++[d2]).length:=by rw[hdl];omega
   rw[show(i-1+1).toNat=i.toNat by omega,List.drop_eq_getElem_cons hind,consD_cons,show i.toNat+1=(i+1).toNat by omega]
   have D1:DatAt (λj=>P0 j\/(H1.size<=j/\j<H7.size)) H12 (us++[u])[i.toNat] (ds++[d2])[i.toNat]:=(hrow7.each i.toNat hin hind).keep f712 (λj hj h=>by
    rcases h.1 with h' | h'
    ·exact nrb j hj h'
    ·simp at hj;omega) (λj hj=>hj.1)
   refine dat_pair (f15.get (by simp;omega) g14) (D1.keep ((f13.trans e14.fr).trans f15) (λj hj h=>?_) (λj hj=>⟨hj.imp id (λh=>⟨h.1,by have:=h.2;omega⟩),λe=>?_⟩)) (hD.keep ((e14.fr (S:=[b4])).trans f15) (λj hj h=>by simp at hj;exact h.2 hj) (λj hj=>⟨hj.1.imp id (λh=>⟨h.1,by have:=h.2;omega⟩),hj.2⟩)) ⟨.inr ⟨by omega,by omega⟩,by omega⟩
   ·simp at hj;subst hj
    rcases h with h | h
    ·exact hb4P h
    ·omega
   ·subst e
    rcases hj with h | h
    ·exact hb4P h
    ·omega
  ·rw[if_neg hi0]
   have hi1:i= -1:=by omega
   subst hi1
   refine⟨_,_,_,_,_,_,_,_,_,_,box_row g13,?_⟩
   have gb13:=f13.get (by simp;omega) gb12
   subst hrr
   simp only[Int.reduceNeg,Int.reduceAdd,Int.toNat_zero,List.drop_zero]at hD
   exact fin u' 0 H13 gb13 (f12.trans' f13 (λj hj _=>hj) (λj hj hl=>by simp at hj;omega)) rfl (λ_=>⟨f13.get (by simp;omega) (e12.get g10),hD.keep (S:=[]) (Fr.refl _ _) (by simp) (λj hj=>hj.1)⟩) (λh=>absurd rfl h)
end Go.Proofs.YtibpklpgmgakcaaGreatDoor
