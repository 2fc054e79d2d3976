/-
 All things of a heap, one behind the other, as audit goes over them. Proves nothing of any one statement.
-/
import Derived.Test.YtojbbgcjiaphjaaGreatCnt
import Derived.Test.YtojbbgcjiaphjaaGreatFaudit2
import Derived.Test.YtojbbgcjiaphjaaGreatFaudit3
set_option linter.unusedVariables false
set_option linter.unusedSimpArgs false
namespace Go.Proofs.YtojbbgcjiaphjaaGreat
open Go

theorem j1{H:zV}{b:Blk}{x:Hp}(hp:HpAt H b x):eZ.C (some ⟨b.h,0,none⟩) H (λv H'=>v=.bool false/\H'=H):=by
 refine HC.via λR hR=>eZ.link ?_
 unfold eZ.pt
 rw[onPtr_some]
 have h1:hat H ⟨b.h,0,none⟩=some (.pointer (some ⟨b.c,0,none⟩)):=by rw[aI hp.h];rfl
 refine⟨_,h1,?_⟩
 rw[onPtr_some]
 refine⟨_,h1,_,rfl,_,hp.cd.cPtr,?_⟩
 rw[onPtr_some]
 refine⟨_,h1,_,rfl,_,hp.cd.cPtr,_,rfl,_,hp.cd.sp.memPtr,?_⟩
 rw[onPtr_some]
 exact hR _ _ ⟨rfl,rfl⟩
def tagA(k:Int):Int:=if k=0 then 1 else if k=1 then 2 else 3
theorem nf{H:zV}{k:Int}(hk:0<=k/\k<=3):fV.C k H (λv H'=>v=.int .i64 (tagA k)/\H'=H):=by
 refine HC.via λR hR=>fV.link ?_
 unfold fV.pt
 refine⟨tagA k,⟨⟨hk.1,by omega⟩,?_⟩,hR _ _ ⟨rfl,rfl⟩⟩
 rcases(show k=0\/k=1\/k=2\/k=3 by omega)with rfl | rfl | rfl | rfl<;>rfl
def jp(m:Mem)(k at':Int):Nat->List (Int×Int)
 | 0=> []
 | f+1=>if at'< (m.seg k.toNat).n then((k*64+at')*8+tagA (m.seg k.toNat).kind,m.sizeOf ((k*64+at')*8+tagA (m.seg k.toNat).kind))::
   (if m.sizeOf ((k*64+at')*8+tagA (m.seg k.toNat).kind)=0 then[]else jp m k (at'+m.sizeOf ((k*64+at')*8+tagA (m.seg k.toNat).kind)) f)else[]
theorem oT(m:Mem)(k at':Int)(h: ¬at'< (m.seg k.toNat).n): ∀f,jp m k at' f=[]
 | 0=>rfl
 | f+1=>by unfold jp;rw[if_neg h]
def bF(m:Mem)(l:List Nat):List (Int×Int):=l.flatMap λk:Nat=>jp m (k:Int) 0 64
theorem mH(m:Mem){l:List Nat}{i:Nat}(h:i<l.length):bF m (l.take (i+1))=bF m (l.take i)++jp m (l[i]:Nat) 0 64:=by
 rw[List.take_succ_eq_append_getElem h]
 unfold bF
 rw[List.flatMap_append];simp
theorem lS(m:Mem)(l:List Nat)(i:Nat):bF m l=bF m (l.take i)++bF m (l.drop i):=by
 unfold bF
 rw[<-List.flatMap_append,List.take_append_drop]
set_option maxRecDepth 100000 in
set_option maxHeartbeats 1000000 in
theorem ml{A0:zV}{b:Blk}{x:Hp}{cap:Nat}{S:List Nat}{J:List (Int×Int)->List Nat->zV->Prop}{yield:Value}{R:zv}
  (hp:HpAt A0 b x) (ok:SpOK x.sp) (hcap:A0[cap]?=some (.cells #[.pointer (some ⟨b.h,0,none⟩)] 28 (0,0))) (hS: ∀i∈S,i<A0.size/\i ∉ b.all/\i≠cap)
  (hE: ∀l T A A',J l T A->Ext A A'->J l T A') (hT: ∀l T A,J l T A-> ∀j∈T,A0.size<=j/\j<A.size)
  (hy: ∀l pre w n post T A,eW x.sp.mem [] l->bF x.sp.mem l=pre++(w,n)::post->Fr S A0 A->J pre T A->FC Tryz.prog yield #[.int .u64 w,.int .i64 n] A (λv A'=>(v=.bool true/\ ∃T',J (pre++[(w,n)]) T' A'/\Fr (S++T) A A'/\ ∀j∈T',j∈T\/A.size<=j)\/(v=.bool false/\R (.tuple #[]) A')))
  (h0:J [] [] A0) (hR: ∀l T A,eW x.sp.mem [] l->J (bF x.sp.mem l) T A->Fr S A0 A->R (.tuple #[]) A):eG.C yield (some ⟨cap,0,none⟩) A0 R:=by
 refine eG.link ?_
 unfold eG.pt zY
 have capv: ∀{A},Fr S A0 A->hat A ⟨cap,0,none⟩=some (.pointer (some ⟨b.h,0,none⟩)):=λ{A} f=>by
  rw[aI (f.get (λh=>(hS _ h).2.2 rfl) hcap)];rfl
 have hpv: ∀{A},Fr S A0 A->HpAt A b x:=λ{A} f=>hp.keep f (λi hi=>(hS i hi).2.1)
 have p1: ∀{A},HpAt A b x->hat A ⟨b.h,0,none⟩=some (.pointer (some ⟨b.c,0,none⟩)):=λ{A} h=>by rw[aI h.h];rfl
 refine⟨_,rfl,_,capv (Fr.refl _ _),HC.mono (j1 hp) ?_⟩
 rintro _ AA ⟨rfl,hAA⟩
 obtain rfl:A0=AA:=hAA.symm
 refine⟨_,rfl,?_⟩
 rw[if_neg (by decide)]
 refine⟨_,capv (Fr.refl _ _),_,rfl,_,p1 hp,_,rfl,_,hp.cd.cPtr,_,rfl,_,hp.cd.sp.memPtr,?_⟩
 refine HC.mono (k8 (gs:=[]) hp.cd.sp.mem ok.mem (by rw[SrcAt_none];rfl) rfl (by decide)) ?_
 rintro _ H2 ⟨B,c,l,rfl,hl,how,hfr,e2⟩
 have hlim:=ok.mem.lim
 have hlen:=hl.len
 have z2:=e2.size
 have hBS: ∀j∈blks B,j ∉ S:=λj hj h=>by have:=hfr j hj;have:=(hS j h).1;omega
 refine⟨_,_,_,rfl,λi A=>(0<=i/\i<=l.length)/\Fr S A0 A/\Own A 3 1 B l.length c (ivs (l.map λi:Nat=>(i:Int)))/\H2.size<=A.size/\ ∃T,J (bF x.sp.mem (l.take i.toNat)) T A/\ ∀j∈T,H2.size<=j,λi _=>(l.length-i).toNat,⟨⟨by omega,by omega⟩,e2.fr,how,Nat.le_refl _,[],by rw[show Int.toNat 0=0 from rfl,List.take_zero];exact hE [] _ _ _ h0 e2,by simp⟩,?_⟩
 rintro i A ⟨hi,f0A,howA,zA,T,jA,hTA⟩
 have hBl: ∀j∈blks B,j<H2.size:=how.lt
 by_cases hlt:i< (l.length:Int)
 case neg=>
  rw[if_neg hlt]
  rw[List.take_of_length_le (by omega)]at jA
  exact hR l T A hl jA f0A
 rw[if_pos hlt]
 have hil:i.toNat<l.length:=by omega
 obtain⟨a,ha,hat3⟩:=pD howA hil
 obtain⟨khas,klim,kpos,kgen⟩:=hl.has (List.getElem_mem hil)
 have htk:=mH x.sp.mem hil
 have hsp:=lS x.sp.mem l (i.toNat+1)
 generalize hkk:l[i.toNat]=k at*
 have hpA:=hpv f0A
 refine⟨a,ha,⟨hi.1,hlt⟩,(k:Int),hat3,_,capv f0A,_,rfl,_,p1 hpA,_,rfl,_,hpA.cd.cPtr,_,rfl,_,hpA.cd.sp.memPtr,?_⟩
 refine HC.mono (jH hpA.cd.sp.mem) ?_
 rintro _ H4 ⟨rfl,e4⟩
 refine⟨_,_,_,_,_,_,_,_,rfl,λc5 H5 hc5 hH5=>?_⟩
 obtain⟨hcp,hs⟩:=ke (x.sp.mem.segOr k) hc5 hH5
 refine⟨hcp,λH6 hH6=>?_⟩
 obtain⟨e5,_,hkd,hnn,hr5⟩:=hs H6 hH6
 have esg:x.sp.mem.segOr (k:Int)=x.sp.mem.seg k:=by unfold Mem.segOr;rw[if_pos khas];rfl
 rw[esg]at hkd hnn
 have hn64:=(ok.mem.seg k).n
 have hkind:=(ok.mem.seg k).kind
 have hw1:IntKind.wrap .i64 (i+1)=i+1:=w64 (by omega)
 have hs1:(i+1).toNat=i.toNat+1:=by omega
 have hdec:((l.length:Int)-(i+1)).toNat< ((l.length:Int)-i).toNat:=by omega
 have z4:=e4.size
 have hc5S:c5 ∉ S:=λh=>by
  have:=(hS _ h).1
  omega
 have e46:=e4.trans e5
 have z5:=e5.size
 have z5':H5.size=H4.size+1:=by rw[hH5];simp
 have c5lt:c5<H6.size:=by
  have h6:H6.size=H5.size:=by rw[hH6,bV _ _ _ _ _ (aG hc5 hH5)];simp
  omega
 refine⟨λt D=>0<=t/\Fr S A0 D/\Own D 3 1 B l.length c (ivs (l.map λi:Nat=>(i:Int)))/\(H6.size<=D.size/\hat D ((Addr.mk c5 0 none).add 2)=some (.int .i64 (x.sp.mem.seg k).n)/\hat D ((Addr.mk c5 0 none).add 1)=some (.int .i64 (x.sp.mem.seg k).kind))/\ ∃pre f T,(∀j∈T,H2.size<=j/\j≠c5)/\((x.sp.mem.seg k).n-t).toNat<=f/\J pre T D/\pre++jp x.sp.mem k t f=bF x.sp.mem (l.take (i.toNat+1)),λt _=>((x.sp.mem.seg k).n-t).toNat,
  ⟨by omega,f0A.trans e46.fr,howA.ext e46,⟨Nat.le_refl _,hnn,hkd⟩,_,64,T,λj hj=>⟨hTA j hj,by have:=(hT _ _ _ jA j hj).2;omega⟩,by omega,hE _ _ _ _ jA e46,htk.symm⟩,?_⟩
 rintro t D ⟨ht,f0D,howD,⟨zD,hnD,hkD⟩,pre,f,T1,hT1,hf,jD,hpre⟩
 refine⟨_,hnD,?_⟩
 by_cases htn:t< (x.sp.mem.seg k).n
 case neg=>
  rw[if_neg htn,hw1]
  rw[oT _ _ _ (by simpa using htn),List.append_nil]at hpre
  exact⟨⟨⟨by omega,by omega⟩,f0D,howD,by omega,T1,by rw[hs1,<-hpre];exact jD,λj hj=>(hT1 j hj).1⟩,hdec⟩
 rw[if_pos htn]
 refine⟨_,hkD,HC.mono (nf hkind) ?_⟩
 rintro _ _ ⟨rfl,rfl⟩
 have hw2:IntKind.wrap .i64 ((k:Int)*64)=(k:Int)*64:=w64 (by omega)
 have hw3:IntKind.wrap .i64 ((k:Int)*64+t)=(k:Int)*64+t:=w64 (by omega)
 have htag:tagA (x.sp.mem.seg k).kind=1\/tagA (x.sp.mem.seg k).kind=2\/tagA (x.sp.mem.seg k).kind=3:=by unfold tagA;split<;>(try split)<;>omega
 rw[hw2,hw3]
 refine⟨_,rfl,HC.mono (mc (by omega) (by omega)) ?_⟩
 rintro _ H9 ⟨rfl,e9⟩
 rw[if_neg (by omega),if_pos (by omega)]
 have hp9:=hpv (f0D.trans e9.fr)
 refine⟨_,_,rfl,_,capv (f0D.trans e9.fr),?_⟩
 refine HC.mono (iZ (.real hp9 ok) (by omega)) ?_
 rintro _ H10 ⟨rfl,e10⟩
 have hm:mof (some (b,x))=x.sp.mem:=rfl
 rw[hm]
 have hr:=hP x.sp.mem (((k:Int)*64+t)*8+tagA (x.sp.mem.seg k).kind)
 obtain⟨f,rfl⟩: ∃f',f=f'+1:=⟨f-1,by omega⟩
 have hu:jp x.sp.mem k t (f+1)=(((k:Int)*64+t)*8+tagA (x.sp.mem.seg k).kind,x.sp.mem.sizeOf (((k:Int)*64+t)*8+tagA (x.sp.mem.seg k).kind))::
   (if x.sp.mem.sizeOf (((k:Int)*64+t)*8+tagA (x.sp.mem.seg k).kind)=0 then[]else jp x.sp.mem k (t+x.sp.mem.sizeOf (((k:Int)*64+t)*8+tagA (x.sp.mem.seg k).kind)) f):=by
  rw[jp];rw[if_pos (by simpa using htn)];rfl
 rw[hu]at hpre
 generalize ((k:Int)*64+t)*8+tagA (x.sp.mem.seg k).kind=w at*
 generalize x.sp.mem.sizeOf w=n at*
 have f010:=f0D.trans (e9.trans e10).fr
 refine⟨_,rfl,FC.mono (hy l pre w n _ T1 H10 hl (by rw[hsp,<-hpre,List.append_assoc,List.cons_append]) f010 (hE _ _ _ _ jD (e9.trans e10))) ?_⟩
 rintro v H11 (⟨rfl,T2,j11,f11,hT2⟩ | ⟨rfl,r11⟩)
 ·refine⟨_,rfl,?_⟩
  rw[if_pos rfl]
  have e910:=e9.trans e10
  have z910:=e910.size
  have z11:=f11.size
  have jS: ∀j∈T1,A0.size<=j:=λj hj=>(hT _ _ _ jD j hj).1
  have f011:Fr S A0 H11:=f010.trans' f11 (λ_ h _=>h) (λj hj hl=>by
   rcases List.mem_append.1 hj with h | h
   ·exact h
   ·have:=jS j h;omega)
  have how11:=(howD.ext e910).keep f11 (λj hj h=>by
   rcases List.mem_append.1 h with h | h
   ·exact hBS j hj h
   ·have:=hBl j hj;have:=(hT1 j h).1;omega)
  have hT2': ∀j∈T2,H2.size<=j/\j≠c5:=λj hj=>by
   rcases hT2 j hj with h | h
   ·exact hT1 j h
   ·omega
  have c5n:c5 ∉ S++T1:=λh=>by
   rcases List.mem_append.1 h with h | h
   ·exact hc5S h
   ·exact(hT1 c5 h).2 rfl
  have h2':hat H11 ((Addr.mk c5 0 none).add 2)=some (.int .i64 (x.sp.mem.seg k).n):=f11.hat (a:=⟨c5,2,none⟩) c5n (e910.hat hnD)
  have h1':hat H11 ((Addr.mk c5 0 none).add 1)=some (.int .i64 (x.sp.mem.seg k).kind):=f11.hat (a:=⟨c5,1,none⟩) c5n (e910.hat hkD)
  by_cases hz:n=0
  ·rw[if_pos hz,hw1]
   rw[if_pos hz]at hpre
   exact⟨⟨⟨by omega,by omega⟩,f011,how11,by omega,T2,by rw[hs1,<-hpre];exact j11,λj hj=>(hT2' j hj).1⟩,hdec⟩
  ·rw[if_neg hz,w64 (n:=t+n) (by omega)]
   rw[if_neg hz]at hpre
   exact⟨⟨by omega,f011,how11,⟨by omega,h2',h1'⟩,_,f,T2,hT2',by omega,j11,by rw[List.append_assoc];exact hpre⟩,by show((x.sp.mem.seg k).n-(t+n)).toNat< ((x.sp.mem.seg k).n-t).toNat;omega⟩
 ·refine⟨_,rfl,?_⟩
  rw[if_neg (by decide)]
  exact r11

theorem mm(m:Mem)(k:Int): ∀(f:Nat) (t:Int),(jp m k t f).length<=f
 | 0,t=>Nat.le_refl _
 | f+1,t=>by
  unfold jp
  by_cases h:t< (m.seg k.toNat).n
  ·rw[if_pos h]
   by_cases h0:m.sizeOf ((k*64+t)*8+tagA (m.seg k.toNat).kind)=0
   ·rw[if_pos h0];simp
   ·rw[if_neg h0]
    have:=mm m k f (t+m.sizeOf ((k*64+t)*8+tagA (m.seg k.toNat).kind))
    simp only[List.length_cons];omega
  ·rw[if_neg h];simp
theorem j2(m:Mem): ∀l:List Nat,(bF m l).length<=64*l.length
 | []=>by simp[bF]
 | k::l=>by
  have h1:=mm m (k:Int) 64 0
  have h2:=j2 m l
  have e:bF m (k::l)=jp m (k:Int) 0 64++bF m l:=by unfold bF;rw[List.flatMap_cons]
  rw[e,List.length_append,List.length_cons];omega
def wsOf(l:List (Int×Int)):List Int:=(l.filter λp=>decide (p.2>0)).map Prod.fst
theorem ng(l:List (Int×Int)):(wsOf l).length<=l.length:=by
 unfold wsOf;rw[List.length_map];exact List.length_filter_le _ _
theorem nh(l:List (Int×Int)){w n:Int}(h:n>0):wsOf (l++[(w,n)])=wsOf l++[w]:=by
 unfold wsOf
 rw[List.filter_append,List.filter_cons_of_pos (by simpa using h),List.map_append];rfl
theorem ni(l:List (Int×Int)){w n:Int}(h: ¬n>0):wsOf (l++[(w,n)])=wsOf l:=by
 unfold wsOf
 rw[List.filter_append,List.filter_cons_of_neg (by simpa using h)];simp
set_option maxRecDepth 100000 in
set_option maxHeartbeats 1000000 in
theorem nj{A:zV}{b:Blk}{x:Hp}(hp:HpAt A b x)(ok:SpOK x.sp)(hb: ∀j∈b.all,j<A.size):
  dW.C (some ⟨b.h,0,none⟩) A (λv A'=> ∃(B:zW) (c:Nat) (l:List Nat),eW x.sp.mem [] l/\v=.slice B (wsOf (bF x.sp.mem l)).length c/\Own A' 40 1 B (wsOf (bF x.sp.mem l)).length c (wvs (wsOf (bF x.sp.mem l)))/\(∀j∈blks B,A.size<=j)/\Ext A A'):=by
 refine HC.via λR hR=>dW.link ?_
 unfold dW.pt
 intro bv H1 hbv hH1
 have e1:Ext A H1:=Ext.push' hH1
 refine cW.link ?_
 unfold cW.pt
 intro cap H2 hcap hH2
 have e2:Ext H1 H2:=Ext.push' hH2
 have z1:H1.size=A.size+1:=by rw[hH1];simp
 have z2:H2.size=H1.size+1:=by rw[hH2];simp
 refine⟨rfl,λrc lp H3 hlp hH3 vY hY=>?_⟩
 have e3:Ext H2 H3:=(Ext.push' rfl).trans (Ext.push' hH3)
 have z3:H3.size=H2.size+2:=by rw[hH3];simp
 have gdef:H3[H2.size]?=some (.deferred (some [])):=by
  have:(H2.push (.deferred (some [])))[H2.size]?=some (.deferred (some [])):=aG rfl rfl
  exact(Ext.push' hH3).get this
 have glp:H3[lp]?=some (rc .ready none):=aG (by simp;omega) hH3
 have gbv:H3[bv]?=some (.cells #[.slice none 0 0] 29 (0,0)):=(e2.trans e3).get (aG hbv hH1)
 have gcap:H3[cap]?=some (.cells #[.pointer (some ⟨b.h,0,none⟩)] 28 (0,0)):=e3.get (aG hcap hH2)
 have e03:=(e1.trans e2).trans e3
 have hlpbv:bv≠lp:=by omega
 refine FE.of2 (enters_of Tryz.func101 (by kernel_rfl) rfl) rfl (ml (S:=[lp,bv])
  (J:=λl T D=>D[lp]?=some (rc .ready none)/\ ∃(B:zW) (c:Nat),D[bv]?=some (.cells #[.slice B (wsOf l).length c] 29 (0,0))/\Own D 40 1 B (wsOf l).length c (wvs (wsOf l))/\T=blks B/\(∀j∈blks B,H3.size<=j/\j<D.size))
  (hp.ext e03) ok gcap (λi hi=>by
   simp at hi
   refine⟨by omega,λh=>by have:=hb i h;omega,by omega⟩) (λl T D D' ⟨h1,B,c,h2,h3,h4,h5⟩ e=>⟨e.get h1,B,c,e.get h2,h3.ext e,h4,λj hj=>⟨(h5 j hj).1,by have:=(h5 j hj).2;have:=e.size;omega⟩⟩)
  (λl T D ⟨_,B,c,_,_,h4,h5⟩ j hj=>by subst h4;exact h5 j hj) (λl pre w n post T D hl hall f0 hJ=>?_) ⟨glp,none,0,gbv,iL,rfl,by simp⟩ (λl T D hl hJ f0=>?_))
 ·obtain⟨qlp,B,c,qbv,qow,rfl,qB⟩:=hJ
  have hlen:(wsOf pre).length<=65536:=by
   have h1:=ng pre
   have h2:=j2 x.sp.mem l
   rw[hall,List.length_append]at h2
   have h3:=hl.len
   have h4:=ok.mem.lim
   omega
  refine hY w n D _ qlp ⟨qlp,λH5 hH5=>?_⟩
  have f5:Fr [lp] D H5:=by rw[hH5];exact Fr.set
  have ql5:H5[lp]?=some (rc .busy none):=by rw[hH5];exact aX (aO qlp)
  have qb5:=f5.get (by simp;exact hlpbv) qbv
  have hBlp: ∀j∈blks B,j ∉ [lp]:=λj hj h=>by have:=(qB j hj).1;simp at h;omega
  have ow5:=qow.keep f5 hBlp
  have z5:=f5.size
  by_cases hn:n>0
  ·rw[if_pos hn]
   refine⟨B,_,c,by rw[aI qb5];rfl,λb2 H6 hb2 hH6=>?_⟩
   have e6:Ext H5 H6:=Ext.push' hH6
   have z6:=e6.size
   refine fG (ys:=wvs [w]) (ow5.ext e6) (fL (aG hb2 hH6) _ 0 0 (λj hj=>by simp at hj;subst hj;rfl)) rfl (gM _) rfl (by omega) ?_
   intro p' c' H7 o7 f7 hnew
   have hbvB:bv ∉ blks B:=λh=>by have:=(qB _ h).1;omega
   have hlpB:lp ∉ blks B:=λh=>by have:=(qB _ h).1;omega
   have qb7:=f7.get hbvB (e6.get qb5)
   have ql7:=f7.get hlpB (e6.get ql5)
   obtain⟨c8,s8⟩:=kC qb7 0 (.slice p' ((wsOf pre).length+1) c') (by simp)
   rw[kl]at c8 s8
   refine⟨c8,λH8 hH8=>?_⟩
   obtain⟨g8,f8⟩:=s8 H8 hH8
   have ql8:=f8.get (by simp;omega) ql7
   have z7:=f7.size
   have z8:=f8.size
   have hp': ∀j∈blks p',j∈blks B\/H6.size<=j:=hnew
   have hp'3: ∀j∈blks p',H3.size<=j:=λj hj=>by
    rcases hp' j hj with h | h
    ·exact(qB j h).1
    ·have:=f0.size;omega
   have ow8:=o7.keep f8 (λj hj h=>by have:=hp'3 j hj;simp at h;omega)
   have f9:Fr [lp] H8 (aF H8 lp (rc .ready none)):=Fr.set
   have ow9:=ow8.keep f9 (λj hj h=>by have:=hp'3 j hj;simp at h;omega)
   refine⟨ql8,.inl ⟨rfl,_,⟨aX (aO ql8),p',c',?_,?_,rfl,λj hj=>⟨hp'3 j hj,?_⟩⟩,?_,λj hj=>?_⟩⟩
   ·rw[nh _ hn,List.length_append]
    exact f9.get (by simp;exact hlpbv) g8
   ·rw[nh _ hn,List.length_append]
    have e:wvs (wsOf pre++[w])=wvs (wsOf pre)++wvs [w]:=by unfold wvs;rw[List.map_append]
    rw[e];exact ow9
   ·have:=ow9.lt j hj;exact this
   ·have a:Fr ([lp,bv]++blks B) D H6:=(f5.mono (λi hi _=>by simp at hi;simp[hi])).trans e6.fr
    have b':Fr ([lp,bv]++blks B) H6 H7:=f7.mono (λi hi _=>List.mem_append_right _ hi)
    exact((a.trans b').trans (f8.mono (λi hi _=>by simp at hi;simp[hi]))).trans (f9.mono (λi hi _=>by simp at hi;simp[hi]))
   ·rcases hp' j hj with h | h
    ·exact .inl h
    ·right;omega
  ·rw[if_neg hn]
   have f9:Fr [lp] H5 (aF H5 lp (rc .ready none)):=Fr.set
   refine⟨ql5,.inl ⟨rfl,_,⟨aX (aO ql5),B,c,?_,?_,rfl,λj hj=>⟨(qB j hj).1,?_⟩⟩,?_,λj hj=> .inl hj⟩⟩
   ·rw[ni _ hn];exact f9.get (by simp;exact hlpbv) qb5
   ·rw[ni _ hn];exact ow5.keep f9 hBlp
   ·have:=(qB j hj).2;have:=f9.size;omega
   ·exact(f5.mono (λi hi _=>by simp at hi;simp[hi])).trans (f9.mono (λi hi _=>by simp at hi;simp[hi]))
 ·obtain⟨qlp,B,c,qbv,qow,rfl,qB⟩:=hJ
  refine⟨qlp,λH10 hH10=>?_⟩
  have f10:Fr [lp] D H10:=by rw[hH10];exact Fr.set
  have qb10:=f10.get (by simp;exact hlpbv) qbv
  have gd:=f10.get (by simp;omega) (f0.get (by simp;omega) gdef)
  refine⟨B,_,c,by rw[aI qb10];rfl,gd,?_⟩
  have f11:Fr [H2.size] H10 (H10.setIfInBounds H2.size (.deferred none)):=Fr.set
  refine hR _ _ ⟨B,c,l,hl,rfl,(qow.keep f10 (λj hj h=>by have:=(qB j hj).1;simp at h;omega)).keep f11 (λj hj h=>by have:=(qB j hj).1;simp at h;omega),λj hj=>by have:=(qB j hj).1;omega,?_⟩
  exact((e03.fr_trans f0 (λi hi=>by simp at hi;omega)).fr_trans f10 (λi hi=>by simp at hi;omega)).fr_trans f11 (λi hi=>by simp at hi;omega)

def aOf(w:Int):Int:=if(w % 8=1\/w % 8=2\/w % 8=3\/w % 8=6)/\w / 8<65536 then w / 8 else 0
theorem qf{w:Int}(hw:aP w):0<=aOf w/\aOf w<65536:=by
 unfold aOf
 obtain⟨h1,h2⟩:=hw
 split<;>omega
theorem kf{H:zV}{w:Int}(hw:aP w):cV.C w H (λv H'=>v=.int .i64 (aOf w)/\Ext H H'):=by
 refine HC.via λR hR=>cV.link ?_
 unfold cV.pt
 refine HC.mono (jW hw) ?_
 rintro _ H1 ⟨rfl,e1⟩
 unfold aOf at hR
 split
 ·rename_i h
  rw[if_pos h]at hR
  exact⟨_,_,rfl,hR _ _ ⟨rfl,e1⟩⟩
 ·rename_i h
  rw[if_neg h]at hR
  exact⟨_,_,rfl,hR _ _ ⟨rfl,e1⟩⟩
theorem qg{H:zV}{bm bs:Nat}{m:Mem}{a:Int}(h:cK H bm bs m)(ok:bO m)(ha:a<=9223372036854775807):
  cS.C (some ⟨bm,0,none⟩) a H (λv H'=>(∃e:Int,v=.tuple #[.int .u64 (m.read a),.int .i64 e])/\H'=H):=by
 refine HC.mono (jC h ok ha) ?_
 rintro _ _ ⟨rfl,rfl⟩
 unfold Mem.read
 by_cases hu:m.used a
 ·rw[if_pos hu,if_pos hu];exact⟨⟨_,rfl⟩,rfl⟩
 ·rw[if_neg hu,if_neg hu];exact⟨⟨_,rfl⟩,rfl⟩
def fQ(m:Mem)(w:Int):Int:=if m.typ w>0 then 1 else 0
def bQ(m:Mem)(w:Int):List (Int×Int):=if m.typ w=2\/m.typ w=3 then[]else(List.range (m.sizeOf w-fQ m w).toNat).map λi:Nat=>(aOf w+(fQ m w+i),m.read (aOf w+(fQ m w+i)))
set_option maxRecDepth 100000 in
set_option maxHeartbeats 1000000 in
theorem kQ{A0:zV}{b:Blk}{x:Hp}{c0 c1:Nat}{w:Int}{S:List Nat}{J:List (Int×Int)->List Nat->zV->Prop}{yield:Value}{R:zv}
  (hp:HpAt A0 b x) (ok:SpOK x.sp) (hc0:A0[c0]?=some (.cells #[.pointer (some ⟨b.h,0,none⟩)] 28 (0,0))) (hc1:A0[c1]?=some (.cells #[.int .u64 w] 40 (0,0))) (hw:aP w)
  (hS: ∀i∈S,i ∉ b.all/\i≠c0/\i≠c1)
  (hE: ∀l T A A',J l T A->Ext A A'->J l T A') (hT: ∀l T A,J l T A-> ∀j∈T,A0.size<=j)
  (hy: ∀pre a v post T A,bQ x.sp.mem w=pre++(a,v)::post->Fr S A0 A->J pre T A->FC Tryz.prog yield #[.int .i64 a,.int .u64 v] A (λr A'=>(r=.bool true/\ ∃T',J (pre++[(a,v)]) T' A'/\Fr (S++T) A A'/\ ∀j∈T',j∈T\/A.size<=j)\/(r=.bool false/\R (.tuple #[]) A')))
  (h0:J [] [] A0) (hR: ∀T A,J (bQ x.sp.mem w) T A->Fr S A0 A->R (.tuple #[]) A):eF.C yield (some ⟨c0,0,none⟩) (some ⟨c1,0,none⟩) A0 R:=by
 refine eF.link ?_
 unfold eF.pt zY
 have v0: ∀{A},Fr S A0 A->hat A ⟨c0,0,none⟩=some (.pointer (some ⟨b.h,0,none⟩)):=λ{A} f=>by
  rw[aI (f.get (λh=>(hS _ h).2.1 rfl) hc0)];rfl
 have v1: ∀{A},Fr S A0 A->hat A ⟨c1,0,none⟩=some (.int .u64 w):=λ{A} f=>by
  rw[aI (f.get (λh=>(hS _ h).2.2 rfl) hc1)];rfl
 have hpv: ∀{A},Fr S A0 A->HpAt A b x:=λ{A} f=>hp.keep f (λi hi=>(hS i hi).1)
 have p1: ∀{A},HpAt A b x->hat A ⟨b.h,0,none⟩=some (.pointer (some ⟨b.c,0,none⟩)):=λ{A} h=>by rw[aI h.h];rfl
 have fr0:=Fr.refl S A0
 refine⟨_,rfl,_,v0 fr0,_,rfl,w,v1 fr0,HC.mono (jF (.real hp ok) hw) ?_⟩
 have hm:mof (some (b,x))=x.sp.mem:=rfl
 rw[hm]
 rintro _ H1 ⟨rfl,e1⟩
 refine⟨_,rfl,?_⟩
 have hr:=hP x.sp.mem w
 have haw:=qf hw
 by_cases h23:x.sp.mem.typ w=2\/x.sp.mem.typ w=3
 ·rw[if_pos (by rcases h23 with h | h<;>rw[h]<;>rfl)]
  have hfl:bQ x.sp.mem w=[]:=by unfold bQ;rw[if_pos h23]
  exact hR [] _ (by rw[hfl];exact hE _ _ _ _ h0 e1) e1.fr
 rw[if_neg (by simpa using h23)]
 have hfl:bQ x.sp.mem w=(List.range (x.sp.mem.sizeOf w-fQ x.sp.mem w).toNat).map λi:Nat=>(aOf w+(fQ x.sp.mem w+i),x.sp.mem.read (aOf w+(fQ x.sp.mem w+i))):=by unfold bQ;rw[if_neg h23]
 have hF:fQ x.sp.mem w=0\/fQ x.sp.mem w=1:=by unfold fQ;split<;>omega
 refine⟨λf H'=>f=fQ x.sp.mem w/\H1=H',?_,?_⟩
 ·unfold fQ
  by_cases h:x.sp.mem.typ w>0
  ·rw[if_pos h,if_pos h];exact⟨rfl,rfl⟩
  ·rw[if_neg h,if_neg h];exact⟨rfl,rfl⟩
 rintro _ _ ⟨rfl,rfl⟩
 have hlenF:(bQ x.sp.mem w).length=(x.sp.mem.sizeOf w-fQ x.sp.mem w).toNat:=by rw[hfl];simp
 refine⟨λi A=> ∃k:Nat,i=fQ x.sp.mem w+k/\k<=(bQ x.sp.mem w).length/\Fr S A0 A/\ ∃T,J ((bQ x.sp.mem w).take k) T A,λi _=>(x.sp.mem.sizeOf w-i).toNat,⟨0,by omega,by omega,e1.fr,[],by rw[List.take_zero];exact hE _ _ _ _ h0 e1⟩,?_⟩
 rintro _ A ⟨k,rfl,hk,fA,T,jA⟩
 refine⟨_,v0 fA,w,v1 fA,HC.mono (iZ (.real (hpv fA) ok) hw) ?_⟩
 rw[hm]
 rintro _ H4 ⟨rfl,e4⟩
 have f4:=fA.trans e4.fr
 refine⟨_,rfl,?_⟩
 by_cases hlt:fQ x.sp.mem w+(k:Int)<x.sp.mem.sizeOf w
 case neg=>
  rw[if_neg hlt]
  rw[List.take_of_length_le (by omega)]at jA
  exact hR T _ (hE _ _ _ _ jA e4) f4
 rw[if_pos hlt]
 have hkl:k< (bQ x.sp.mem w).length:=by omega
 have hp4:=hpv f4
 refine⟨_,v0 f4,_,rfl,_,p1 hp4,_,rfl,_,hp4.cd.cPtr,_,rfl,_,hp4.cd.sp.memPtr,w,v1 f4,?_⟩
 refine HC.mono (kf hw) ?_
 rintro _ H5 ⟨rfl,e5⟩
 have f5:=f4.trans e5.fr
 have hp5:=hpv f5
 have row: ∀{a:Addr} {v:Value},hat H5 a=some v->aS H5 a 0 [v]:=λh=>⟨by rw[show Addr.add _ 0=_ from rfl];exact h,trivial⟩
 have hwr:IntKind.wrap .i64 (aOf w+(fQ x.sp.mem w+(k:Int)))=aOf w+(fQ x.sp.mem w+(k:Int)):=w64 (by omega)
 refine⟨_,rfl,row (v0 f5),row (p1 hp5),row hp5.cd.cPtr,row hp5.cd.sp.memPtr,?_⟩
 rw[hwr]
 refine HC.mono (qg hp5.cd.sp.mem ok.mem (by omega)) ?_
 rintro _ _ ⟨⟨er,rfl⟩,rfl⟩
 refine⟨_,_,rfl,w,v1 f5,?_⟩
 refine HC.mono (kf hw) ?_
 rintro _ H7 ⟨rfl,e7⟩
 refine⟨_,rfl,?_⟩
 rw[hwr]
 have e47:=(e4.trans e5).trans e7
 have f7:=f5.trans e7.fr
 have hel:(bQ x.sp.mem w)[k]=(aOf w+(fQ x.sp.mem w+(k:Int)),x.sp.mem.read (aOf w+(fQ x.sp.mem w+(k:Int)))):=by
  simp only[hfl,List.getElem_map,List.getElem_range]
 have hall:bQ x.sp.mem w=(bQ x.sp.mem w).take k++(aOf w+(fQ x.sp.mem w+(k:Int)),x.sp.mem.read (aOf w+(fQ x.sp.mem w+(k:Int))))::(bQ x.sp.mem w).drop (k+1):=by
  rw[<-hel,<-List.drop_eq_getElem_cons hkl,List.take_append_drop]
 refine FC.mono (hy _ _ _ _ T H7 hall f7 (hE _ _ _ _ jA e47)) ?_
 rintro v H8 (⟨rfl,T2,j8,f8,hT2⟩ | ⟨rfl,r8⟩)
 ·refine⟨_,rfl,?_⟩
  rw[if_pos rfl]
  have hw1:IntKind.wrap .i64 (fQ x.sp.mem w+(k:Int)+1)=fQ x.sp.mem w+((k+1:Nat):Int):=by rw[w64 (by omega)];omega
  rw[hw1]
  have f08:Fr S A0 H8:=f7.trans' f8 (λ_ h _=>h) (λj hj hl=>by
   rcases List.mem_append.1 hj with h | h
   ·exact h
   ·have:=hT _ _ _ jA j h;omega)
  refine⟨⟨k+1,rfl,by omega,f08,T2,?_⟩,by show(x.sp.mem.sizeOf w-(fQ x.sp.mem w+((k+1:Nat):Int))).toNat< (x.sp.mem.sizeOf w-(fQ x.sp.mem w+(k:Int))).toNat;omega⟩
  rw[List.take_succ_eq_append_getElem hkl,hel]
  exact j8
 ·refine⟨_,rfl,?_⟩
  rw[if_neg (by decide)]
  exact r8
