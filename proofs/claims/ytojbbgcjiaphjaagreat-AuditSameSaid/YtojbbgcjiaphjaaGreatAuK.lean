/-
 All that is come to from words (audit): both loops. Proves nothing of any one statement.
-/
import Derived.Test.YtojbbgcjiaphjaaGreatAuH
import Derived.Test.YtojbbgcjiaphjaaGreatAuA
set_option linter.unusedVariables false
set_option linter.unusedSimpArgs false
namespace Go.Proofs.YtojbbgcjiaphjaaGreat
open Go

theorem pK(m:Mem)(L:List Int)(w:Int):L.length<=(addW m L w).length:=by
 unfold addW
 split
 ·simp
 ·exact Nat.le_refl _
theorem mo(m:Mem): ∀(vs L:List Int),L.length<=(vs.foldl (addW m) L).length
 | [],_=>Nat.le_refl _
 | w::vs,L=>Nat.le_trans (pK m L w) (mo m vs _)
theorem mK(m:Mem){L:List Int}{i:Nat}(h:L.length<=i):jv m L i=L:=by
 unfold jv;rw[List.getElem?_eq_none h]
theorem kp(m:Mem)(roots:List Int){k:Nat}(h:(fZ m roots k).length<=k): ∀d,fZ m roots (k+d)=fZ m roots k
 | 0=>rfl
 | d+1=>by
  have ih:=kp m roots h d
  show jv m (fZ m roots (k+d)) (k+d)=_
  rw[ih,mK _ (by omega)]
theorem lJ(m:Mem)(roots:List Int){j k:Nat}(hj:(fZ m roots j).length<=j)(hk:(fZ m roots k).length<=k):fZ m roots j=fZ m roots k:=by
 rcases Nat.le_total j k with h | h
 ·have:=kp m roots hj (k-j)
  rw[show j+(k-j)=k by omega]at this
  exact this.symm
 ·have:=kp m roots hk (j-k)
  rw[show k+(j-k)=j by omega]at this
  exact this
structure Came (m:Mem) (roots:List Int) (A:zV) (B:zW) (c mr:Nat) (L:List Int):Prop where
 all: ∃k,L=fZ m roots k/\L.length=k
 own:Own A 40 1 B L.length c (wvs L)
 map: ∃(es:Array MapEntry) (cl:Nat) (ks:List (Int×Value)),A[mr]?=some (.map es cl)/\Ents (bT .u64) es.toList ks/\ ∀w,mget ks w=if w∈L then some (.int .i64 (L.idxOf w+1:Nat))else none
 nod:L.Nodup
 pos: ∀w∈L,m.sizeOf w>0/\aP w
 len:L.length<=524288
theorem Came.keep{m:Mem}{roots:List Int}{A A':zV}{B:zW}{c mr:Nat}{L:List Int}{S:List Nat}(h:Came m roots A B c mr L)(f:Fr S A A')(hB: ∀j∈blks B,j ∉ S)(hm:mr ∉ S):Came m roots A' B c mr L:=by
 obtain⟨es,cl,ks,h1,h2,h3⟩:=h.map
 exact⟨h.all,h.own.keep f hB,⟨es,cl,ks,f.get hm h1,h2,h3⟩,h.nod,h.pos,h.len⟩
theorem Came.ext{m:Mem}{roots:List Int}{A A':zV}{B:zW}{c mr:Nat}{L:List Int}(h:Came m roots A B c mr L)(e:Ext A A'):Came m roots A' B c mr L:=h.keep (S:=[]) e.fr (by simp) (by simp)
set_option maxRecDepth 100000 in
set_option maxHeartbeats 2000000 in
theorem pL{A:zV}{b:Blk}{x:Hp}{rB:zW}{rN rC:Nat}{roots:List Int}(hp:HpAt A b x)(ok:SpOK x.sp)(hr:Nums A .u64 rB rN roots)(hrn:rN<=1000000)(hrw: ∀w∈roots,aP w)(hrb: ∀j∈blks rB,j<A.size):
  fI.C (some ⟨b.h,0,none⟩) rB rN rC A (λv A'=> ∃(B:zW) (c mr:Nat) (L:List Int),v=.tuple #[.slice B L.length c,.map (some mr)]/\Came x.sp.mem roots A' B c mr L/\(∀j∈blks B,A.size<=j)/\A.size<=mr/\Ext A A'):=by
 refine HC.via λR hR=>fI.link ?_
 unfold fI.pt zY
 intro b0 H1 hb0 hH1 mr H2 hmr hH2 b3 H3 hb3 hH3
 have hb:=hp.lt
 have e1:Ext A H1:=Ext.push' hH1
 have e2:Ext H1 H2:=Ext.push' hH2
 have z1:H1.size=A.size+1:=by rw[hH1];simp
 have z2:H2.size=H1.size+1:=by rw[hH2];simp
 have z3:H3.size=H2.size+1:=by rw[hH3];simp
 have g0:=aG hb0 hH1
 have gm:=aG hmr hH2
 obtain⟨c3,s3⟩:=dQ (A3:=aU H3 (Addr.mk b3 0 none) [.map (some mr)] 0) hb3 hH3 [.map (some mr)] rfl
 refine⟨c3,λH4 hH4 b4 H5 hb4 hH5 b5 H6 hb5 hH6=>?_⟩
 obtain⟨g3,e4⟩:=s3 rfl
 rw[<-hH4]at g3 e4
 have z4:H4.size=H3.size:=by rw[hH4,bV _ _ _ _ _ (aG hb3 hH3)];simp
 have e5:Ext H4 H5:=Ext.push' hH5
 have z5:H5.size=H4.size+1:=by rw[hH5];simp
 have z6:H6.size=H5.size+1:=by rw[hH6];simp
 have g4:=aG hb4 hH5
 obtain⟨c6,s6⟩:=dQ (A3:=aU H6 (Addr.mk b5 0 none) [.func (.func 93) #[] #[.pointer (some (Addr.mk b0 0 none)),.pointer (some (Addr.mk b3 0 none)),.pointer (some (Addr.mk b4 0 none))]] 0) hb5 hH6 [.func (.func 93) #[] #[.pointer (some (Addr.mk b0 0 none)),.pointer (some (Addr.mk b3 0 none)),.pointer (some (Addr.mk b4 0 none))]] rfl
 refine⟨c6,λH7 hH7=>?_⟩
 obtain⟨g5,e7⟩:=s6 rfl
 rw[<-hH7]at g5 e7
 have z7:H7.size=H6.size:=by rw[hH7,bV _ _ _ _ _ (aG hb5 hH6)];simp
 have e27:=e4.trans (e5.trans e7)
 have e17:=e2.trans e27
 have E7:=e1.trans e17
 have k0:=e17.get g0
 have k3:=(e5.trans e7).get g3
 have k4:=e7.get g4
 have km:=e27.get gm
 have C0:CmAt x.sp.mem H7 b3 b4 mr H7.size [] []:=⟨k3,⟨#[],0,[],km,rfl,λw=>by rw[if_neg (by simp)];rfl⟩,⟨none,0,k4,iL,rfl,by simp⟩,⟨⟨by omega,by omega,by omega⟩,by omega,by omega,by omega⟩,List.nodup_nil,by simp⟩
 have hlt:b0<H7.size/\b5<H7.size/\H7.size<=H7.size/\b4 ∉ b.all/\mr ∉ b.all/\b4≠b0/\b4≠b5/\mr≠b0/\mr≠b5:=
  ⟨by omega,by omega,Nat.le_refl _,λh=>by have:=hb _ h;omega,λh=>by have:=hb _ h;omega,by omega,by omega,by omega,by omega⟩
 refine oU (hp.ext E7) ok (λj hj=>by have:=hb j hj;omega) k0 g5 hlt C0 (hr.ext E7) hrn (λj hj=>by have:=hrb j hj;omega) hrw ?_
 intro H8 T8 C8 hT8 f8 b6 H10 hb6 hH10
 have z8:=f8.size
 have z10:H10.size=H8.size+1:=by rw[hH10];simp
 obtain⟨c10,s10⟩:=dQ (A3:=aU H10 (Addr.mk b6 0 none) [.int .i64 0] 0) hb6 hH10 [.int .i64 0] rfl
 refine⟨c10,λH11 hH11=>?_⟩
 obtain⟨g6,e11⟩:=s10 rfl
 rw[<-hH11]at g6 e11
 have z11:H11.size=H10.size:=by rw[hH11,bV _ _ _ _ _ (aG hb6 hH10)];simp
 have E8:Ext A H8:=E7.fr_trans f8 (λi hi=>by simp at hi;omega)
 have n0:b0 ∉ [b4,mr]:=by simp;omega
 have n5:b5 ∉ [b4,mr]:=by simp;omega
 refine⟨λi ms A'=> ∃(k iA:Nat) (L:List Int) (T:List Nat),i=some ⟨iA,0,none⟩/\ms.length=k/\A'[iA]?=some (.cells #[.int .i64 (k:Int)] 3 (0,0))/\H7.size<=iA/\L=fZ x.sp.mem roots k/\CmAt x.sp.mem A' b3 b4 mr H7.size L T/\iA ∉ T/\k<=L.length/\ms.Nodup/\
   (∀D∈ms,A'[D]?=some (.deferred (some []))/\D ∉ T/\H7.size<=D/\D≠iA)/\Ext A A'/\H7.size<=A'.size/\A'[b0]?=some (.cells #[.pointer (some ⟨b.h,0,none⟩)] 28 (0,0))/\
   A'[b5]?=some (.cells #[.func (.func 93) #[] #[.pointer (some (Addr.mk b0 0 none)),.pointer (some (Addr.mk b3 0 none)),.pointer (some (Addr.mk b4 0 none))]] 165 (0,0)),
  λ_ ms _=>600000-ms.length,
  ⟨0,b6,_,T8,rfl,rfl,g6,by omega,rfl,C8.ext e11,λh=>by have:=(C8.at _ _ h).2;omega,by omega,List.nodup_nil,by simp,E8.trans e11,by omega,e11.get (f8.get n0 k0),e11.get (f8.get n5 g5)⟩,?_⟩
 rintro _ ms A' ⟨k,iA,L,T,rfl,hms,giA,hiA,hL,C,hiT,hkL,hnd,hD,eA,zA,q0,q5⟩
 refine⟨_,rfl,(k:Int),by rw[aI giA];rfl,?_⟩
 have hCl:=C.len
 obtain⟨B,c,l1,l2,l3,l4⟩:=C.lst
 refine⟨B,_,c,by rw[aI l1];rfl,?_⟩
 by_cases hlt2:(k:Int)< (L.length:Int)
 case neg=>
  rw[if_neg hlt2]
  refine⟨B,_,c,by rw[aI l1];rfl,some mr,by rw[aI C.num];rfl,?_⟩
  have hmsn: ∀D∈ms,H7.size<=D/\D ∉ T:=λD h=>⟨(hD D h).2.2.1,(hD D h).2.1⟩
  refine kI ms A' hnd (λD h=>(hD D h).1) (λA2 f2=>hR _ _ ⟨B,c,mr,L,rfl,⟨⟨k,hL,by omega⟩,l2.keep f2 (λj hj h=>(hmsn j h).2 (l3▸hj)),?_,C.nod,C.pos,hCl⟩,λj hj=>by have:=(l4 j hj).1;omega,by omega,eA.fr_trans f2 (λi hi=>by have:=(hmsn i hi).1;omega)⟩)
  obtain⟨es,cl,ks,m1,m2,m3⟩:=C.map
  exact⟨es,cl,ks,f2.get (λh=>by have:=(hmsn _ h).1;omega) m1,m2,m3⟩
 rw[if_pos hlt2]
 have hkl:k<L.length:=by omega
 obtain⟨pa,p1,p2⟩:=jZ l2.src hkl
 refine⟨_,by rw[aI q0];rfl,B,_,c,by rw[aI l1];rfl,(k:Int),by rw[aI giA];rfl,pa,p1,⟨by omega,by omega⟩,L[k],by rw[show Int.toNat (k:Int)=k by omega];exact p2,?_⟩
 have hpA:=hp.ext eA
 have hlt':b0<H7.size/\b5<H7.size/\H7.size<=A'.size/\b4 ∉ b.all/\mr ∉ b.all/\b4≠b0/\b4≠b5/\mr≠b0/\mr≠b5:=⟨hlt.1,hlt.2.1,zA,hlt.2.2.2⟩
 have hTn:=C.at
 refine nS hpA ok (λj hj=>by have:=hb j hj;omega) q0 q5 hlt' C (List.getElem?_eq_getElem hkl) (C.pos _ (List.getElem_mem hkl)).2 giA ⟨hiT,hiA⟩ ?_
 intro rc lp H13 A2 T2 C2 zH13 hlp gD glp hDT hlpT f2 hT2
 refine⟨glp,λH22 hH22=>?_⟩
 have f3:Fr [lp] A2 H22:=by rw[hH22];exact Fr.set
 have z2':=f2.size
 have z3':H22.size=A2.size:=by rw[hH22];simp
 have hSn: ∀j,j ∉ T->H7.size<=j->j ∉ [b4,mr]++T:=λj h1 h2 h=>by
  rcases List.mem_append.1 h with h | h
  ·simp at h;omega
  ·exact h1 h
 have hTl: ∀j,j<H7.size->j ∉ T:=λj h h2=>by have:=(hTn j h2).1;omega
 have lpbig:A'.size<=lp:=by omega
 have giA3:=f3.get (by simp;have:=aO giA;omega) (f2.get (hSn _ hiT hiA) giA)
 refine⟨_,by rw[aI giA3];rfl,λb7 H23 hb7 hH23=>?_⟩
 obtain⟨c23,s23⟩:=dQ (A3:=aU H23 (Addr.mk b7 0 none) [.int .i64 (k:Int)] 0) hb7 hH23 [.int .i64 (k:Int)] rfl
 refine⟨c23,λH24 hH24=>?_⟩
 obtain⟨g24,e24⟩:=s23 rfl
 rw[<-hH24]at g24 e24
 have g24':H24[b7]?=some (.cells #[.int .i64 (k:Int)] 3 (0,0)):=g24
 obtain⟨c25,s25⟩:=kC g24' 0 (.int .i64 (IntKind.wrap .i64 ((k:Int)+1))) (by simp)
 rw[kl]at c25 s25
 refine⟨_,by rw[aI g24'];rfl,c25,λH25 hH25=>?_⟩
 obtain⟨g25,f25⟩:=s25 H25 hH25
 have z24:=e24.size
 have z25:=f25.size
 have hw:IntKind.wrap .i64 ((k:Int)+1)=((k+1:Nat):Int):=by rw[w64 (n:=(k:Int)+1) (by omega)];omega
 rw[hw]at g25
 have hlpA2:=aO glp
 have hDA2:=aO gD
 have hT2n:=C2.at
 have n7: ∀j,j<A2.size->j ∉ [b7]:=λj h=>by simp;omega
 have keep: ∀{j:Nat} {o:Obj},j<A2.size->j≠lp->A2[j]?=some o->H25[j]?=some o:=λh1 h2 h3=>f25.get (n7 _ h1) (e24.get (f3.get (by simp;exact h2) h3))
 have C25:CmAt x.sp.mem H25 b3 b4 mr H7.size _ T2:=((C2.keep f3 ⟨by simp;omega,by simp;omega,by simp;omega⟩ (λj hj=>by simp;exact λq=>hlpT (q▸hj))).ext e24).keep f25 ⟨by simp;omega,by simp;omega,by simp;omega⟩ (λj hj=>n7 j (hT2n j hj).2)
 have hlt3:ms.length<600000:=by omega
 refine⟨⟨k+1,b7,_,T2,rfl,by simp[hms],g25,by omega,?_,C25,λh=>by have:=(hT2n _ h).2;omega,?_,?_,?_,?_,by omega,?_,?_⟩,by show 600000-(ms.length+1)<600000-ms.length;omega⟩
 ·show _=jv x.sp.mem (fZ x.sp.mem roots k) k
  rw[<-hL];unfold jv;rw[List.getElem?_eq_getElem hkl]
 ·have:=mo x.sp.mem (visL L[k] (bQ x.sp.mem L[k])) L;omega
 ·rw[List.nodup_cons]
  exact⟨λh=>by have:=aO (hD _ h).1;omega,hnd⟩
 ·intro D hDm
  rcases List.mem_cons.1 hDm with h | h
  ·subst h
   exact⟨keep hDA2 (by omega) gD,hDT,by omega,by omega⟩
  ·obtain⟨d1,d2,d3,d4⟩:=hD D h
   have dl:=aO d1
   refine⟨keep (by omega) (by omega) (f2.get (hSn _ d2 d3) d1),λh2=>?_,d3,by omega⟩
   rcases hT2 D h2 with q | q
   ·exact d2 q
   ·omega
 ·have a1:Ext A A2:=eA.fr_trans f2 (λi hi=>by
   rcases List.mem_append.1 hi with h | h
   ·simp at h;omega
   ·have:=(hTn i h).1;omega)
  exact((a1.fr_trans f3 (λi hi=>by simp at hi;have:=eA.size;omega)).trans e24).fr_trans f25 (λi hi=>by simp at hi;have:=a1.size;omega)
 ·exact keep (by omega) (by omega) (f2.get (λh=>by
   rcases List.mem_append.1 h with h | h
   ·exact n0 h
   ·exact hTl _ hlt.1 h) q0)
 ·exact keep (by omega) (by omega) (f2.get (λh=>by
   rcases List.mem_append.1 h with h | h
   ·exact n5 h
   ·exact hTl _ hlt.2.1 h) q5)

def j3(m:Mem)(L:List Int):Int:=(L.map m.sizeOf).sum
theorem mp(m:Mem): ∀L:List Int,0<=j3 m L/\j3 m L<=63*L.length
  | []=>by unfold j3;simp
  | w::L=>by
    have h1:=hP m w
    have h2:=mp m L
    unfold j3 at*
    simp only[List.map_cons,List.sum_cons,List.length_cons]
    omega
theorem nV(m:Mem){L:List Int}{k:Nat}(h:k<L.length):j3 m (L.take (k+1))=j3 m (L.take k)+m.sizeOf L[k]:=by
  unfold j3
  rw[List.take_succ_eq_append_getElem h,List.map_append,List.sum_append];simp
set_option maxRecDepth 100000 in
theorem qI{A:zV}{b:Blk}{x:Hp}{rB:zW}{rN rC:Nat}{roots:List Int}(hp:HpAt A b x)(ok:SpOK x.sp)(hr:Nums A .u64 rB rN roots)(hrn:rN<=1000000)(hrw: ∀w∈roots,aP w)(hrb: ∀j∈blks rB,j<A.size):
    fU.C (some ⟨b.h,0,none⟩) rB rN rC A (λv A'=> ∃L:List Int,(∃k,L=fZ x.sp.mem roots k/\L.length=k)/\v=.int .i64 (j3 x.sp.mem L)/\Ext A A'):=by
  refine HC.via λR hR=>fU.link ?_
  unfold fU.pt zY
  refine HC.mono (pL hp ok hr hrn hrw hrb) ?_
  rintro _ H1 ⟨B,c,mr,L,rfl,C,hB,hmr,e1⟩
  have hl:=C.len
  refine⟨B,_,c,some mr,rfl,λsum i H=> ∃k:Nat,i=k/\k<=L.length/\sum=j3 x.sp.mem (L.take k)/\Ext H1 H,λ_ i _=>((L.length:Int)-i).toNat,⟨0,rfl,by omega,rfl,Ext.refl _⟩,?_⟩
  rintro _ _ H2 ⟨k,rfl,hk,rfl,e2⟩
  by_cases hlt:(k:Int)< (L.length:Int)
  case neg=>
    rw[if_neg hlt,List.take_of_length_le (by omega)]
    exact hR _ _ ⟨L,C.all,rfl,e1.trans e2⟩
  rw[if_pos hlt]
  have hkl:k<L.length:=by omega
  obtain⟨pa,p1,p2⟩:=jZ (C.own.ext e2).src hkl
  refine⟨pa,p1,⟨by omega,hlt⟩,L[k],by rw[show Int.toNat (k:Int)=k by omega];exact p2,?_⟩
  refine HC.mono (iZ (.real (hp.ext (e1.trans e2)) ok) (C.pos _ (List.getElem_mem hkl)).2) ?_
  rintro _ H3 ⟨rfl,e3⟩
  have hm:mof (some (b,x))=x.sp.mem:=rfl
  rw[hm]
  have h1:=hP x.sp.mem L[k]
  have h2:=mp x.sp.mem (L.take k)
  rw[List.length_take]at h2
  have hmin:min k L.length=k:=by omega
  rw[hmin]at h2
  have hw:IntKind.wrap .i64 ((k:Int)+1)=((k+1:Nat):Int):=by rw[w64 (n:=(k:Int)+1) (by omega)];omega
  refine⟨_,rfl,?_⟩
  rw[hw,w64 (n:=j3 x.sp.mem (L.take k)+x.sp.mem.sizeOf L[k]) (by omega)]
  exact⟨⟨k+1,rfl,by omega,(nV _ hkl).symm,e2.trans e3⟩,by show((L.length:Int)-((k+1:Nat):Int)).toNat< ((L.length:Int)-(k:Int)).toNat;omega⟩

def KnAt(A:zV)(nb:Nat)(tag typ more:Int)(ws is:List Int)(T:List Nat):Prop:=
  ∃(B1:zW) (c1:Nat) (B2:zW) (c2:Nat),A[nb]?=some (.cells #[.int .i64 tag,.int .i64 typ,.int .u64 more,.slice B1 ws.length c1,.slice B2 is.length c2] 61 (0,0))/\
    Own A 40 1 B1 ws.length c1 (wvs ws)/\Own A 3 1 B2 is.length c2 (ivs is)/\(∀j∈blks B1,j ∉ blks B2)/\T=blks B1++blks B2/\nb ∉ T
theorem KnAt.keep{S:List Nat}{A A':zV}{nb:Nat}{tag typ more:Int}{ws is:List Int}{T:List Nat}(h:KnAt A nb tag typ more ws is T)(f:Fr S A A')(h1:nb ∉ S)(h2: ∀j∈T,j ∉ S):KnAt A' nb tag typ more ws is T:=by
  obtain⟨B1,c1,B2,c2,k1,k2,k3,k4,rfl,k6⟩:=h
  exact⟨B1,c1,B2,c2,f.get h1 k1,k2.keep f (λj hj=>h2 j (List.mem_append_left _ hj)),k3.keep f (λj hj=>h2 j (List.mem_append_right _ hj)),k4,rfl,k6⟩
theorem KnAt.ext{A A':zV}{nb:Nat}{tag typ more:Int}{ws is:List Int}{T:List Nat}(h:KnAt A nb tag typ more ws is T)(e:Ext A A'):KnAt A' nb tag typ more ws is T:=h.keep (S:=[]) e.fr (by simp) (by simp)
theorem KnAt.lt{A:zV}{nb:Nat}{tag typ more:Int}{ws is:List Int}{T:List Nat}(h:KnAt A nb tag typ more ws is T): ∀j∈nb::T,j<A.size:=by
  obtain⟨B1,c1,B2,c2,k1,k2,k3,k4,rfl,k6⟩:=h
  intro j hj
  rcases List.mem_cons.1 hj with h | h
  · rw[h];exact aO k1
  · rcases List.mem_append.1 h with h | h
    · exact k2.lt j h
    · exact k3.lt j h
theorem lc: ∀l:List Int,gK (ivs l)=true
  | []=>rfl
  | w::l=>by show(true && gK (ivs l))=true;rw[lc l];rfl
set_option maxRecDepth 100000 in
theorem np{A:zV}{nb:Nat}{tag typ more:Int}{ws is:List Int}{T:List Nat}{w' i:Int}{R:zv}(K:KnAt A nb tag typ more ws is T)(hl:ws.length<=100000000/\is.length<=100000000)
    (hR: ∀A' T',KnAt A' nb tag typ more (ws++[w']) (is++[i]) T'->Fr (nb::T) A A'->(∀j∈T',j∈T\/A.size<=j)->R (.tuple #[]) A'):
    ∃nvA:Addr,some (Addr.mk nb 0 none)=some nvA/\
    ∃xB:zW,∃xN:Nat,∃xC:Nat,hat A (nvA.add 3)=some (.slice xB xN xC)/\
    ∀(b:Nat) (H1:zV),b=A.size->H1=A.push (.cells #[.int .u64 w'] 40)->
    dH 1 40 8 [.int .u64 0] xB xN xC (some (Addr.mk b 0 none)) 1 H1 (λap apC H2=>
     (aK H2 (nvA.add 3) 0 1)/\ ∀H3:zV,H3=aU H2 (nvA.add 3) [.slice ap (xN+1) apC] 0->
     ∃xB_2:zW,∃xN_2:Nat,∃xC_2:Nat,hat H3 (nvA.add 4)=some (.slice xB_2 xN_2 xC_2)/\
     ∀(b_2:Nat) (H4:zV),b_2=H3.size->H4=H3.push (.cells #[.int .i64 i] 3)->
     dH 1 3 8 [.int .i64 0] xB_2 xN_2 xC_2 (some (Addr.mk b_2 0 none)) 1 H4 (λap_2 apC_2 H5=>
      (aK H5 (nvA.add 4) 0 1)/\ ∀H6:zV,H6=aU H5 (nvA.add 4) [.slice ap_2 (xN_2+1) apC_2] 0->
      R (.tuple #[]) H6)):=by
  obtain⟨B1,c1,B2,c2,k1,k2,k3,k4,rfl,k6⟩:=K
  have nb1:nb ∉ blks B1:=λh=>k6 (List.mem_append_left _ h)
  have nb2:nb ∉ blks B2:=λh=>k6 (List.mem_append_right _ h)
  have l1:=k2.lt
  have l2:=k3.lt
  have lnb:=aO k1
  refine⟨_,rfl,B1,_,c1,cD k1 3,λb H1 hb hH1=>?_⟩
  have e1:Ext A H1:=Ext.push' hH1
  have z1:H1.size=A.size+1:=by rw[hH1];simp
  refine fG (ys:=wvs [w']) (k2.ext e1) (fL (aG hb hH1) _ 0 0 (λj hj=>by simp at hj;subst hj;rfl)) rfl (gM _) rfl (by omega) ?_
  intro p1 d1 H2 o2 f2 n2
  have z2:=f2.size
  obtain⟨q3,s3⟩:=kC (f2.get nb1 (e1.get k1)) 3 (.slice p1 (ws.length+1) d1) (by simp)
  refine⟨q3,λH3 hH3=>?_⟩
  obtain⟨g3,f3⟩:=s3 H3 hH3
  have z3:=f3.size
  have hp1: ∀j∈blks p1,j∈blks B1\/A.size<j:=λj hj=>by
    rcases n2 j hj with h | h
    · exact .inl h
    · right;omega
  have np1:nb ∉ blks p1:=λh=>by
    rcases hp1 _ h with h | h
    · exact nb1 h
    · omega
  have o3:=o2.keep f3 (λj hj h=>by simp at h;exact np1 (h▸hj))
  have k33:=((k3.ext e1).keep f2 (λj hj h=>k4 j h hj)).keep f3 (λj hj h=>by simp at h;exact nb2 (h▸hj))
  refine⟨B2,_,c2,cD g3 4,λb2 H4 hb2 hH4=>?_⟩
  have e4:Ext H3 H4:=Ext.push' hH4
  have z4:H4.size=H3.size+1:=by rw[hH4];simp
  refine fG (ys:=ivs [i]) (k33.ext e4) (fL (aG hb2 hH4) _ 0 0 (λj hj=>by simp[ivs]at hj;subst hj;rfl)) rfl (lc _) rfl (by omega) ?_
  intro p2 d2 H5 o5 f5 n5
  have z5:=f5.size
  obtain⟨q6,s6⟩:=kC (f5.get nb2 (e4.get g3)) 4 (.slice p2 (is.length+1) d2) (by simp)
  refine⟨q6,λH6 hH6=>?_⟩
  obtain⟨g6,f6⟩:=s6 H6 hH6
  have hp2: ∀j∈blks p2,j∈blks B2\/H4.size<=j:=n5
  have np2:nb ∉ blks p2:=λh=>by
    rcases hp2 _ h with h | h
    · exact nb2 h
    · omega
  have o3l:=o3.lt
  have dis: ∀j∈blks p1,j ∉ blks p2:=λj h1 h2=>by
    rcases hp2 j h2 with q | q
    · rcases hp1 j h1 with r | r
      · exact k4 j r q
      · have:=l2 j q;omega
    · have:=o3l j h1;omega
  have o6:=o5.keep f6 (λj hj h=>by simp at h;exact np2 (h▸hj))
  have o1:=((o3.ext e4).keep f5 (λj hj h=>by
    rcases hp1 j hj with r | r
    · exact k4 j r h
    · have:=l2 j h;omega)).keep f6 (λj hj h=>by simp at h;exact np1 (h▸hj))
  refine hR H6 (blks p1++blks p2) ⟨p1,d1,p2,d2,?_,?_,?_,dis,rfl,λh=>?_⟩ ?_ (λj hj=>?_)
  · rw[List.length_append,List.length_append];exact g6
  · have e:wvs (ws++[w'])=wvs ws++wvs [w']:=by unfold wvs;rw[List.map_append]
    rw[e,List.length_append];exact o1
  · have e:ivs (is++[i])=ivs is++ivs [i]:=by unfold ivs;rw[List.map_append]
    rw[e,List.length_append];exact o6
  · rcases List.mem_append.1 h with h | h
    · exact np1 h
    · exact np2 h
  · have a1:Fr (nb::(blks B1++blks B2)) A H2:=e1.fr.trans (f2.mono (λj hj _=>by simp[hj]))
    have a2:Fr (nb::(blks B1++blks B2)) H2 H4:=(f3.mono (λj hj _=>by simp at hj;simp[hj])).trans e4.fr
    have a3:Fr (nb::(blks B1++blks B2)) H4 H6:=(f5.mono (λj hj _=>by simp[hj])).trans (f6.mono (λj hj _=>by simp at hj;simp[hj]))
    exact(a1.trans a2).trans a3
  · rcases List.mem_append.1 hj with h | h
    · rcases hp1 j h with r | r
      · exact .inl (List.mem_append_left _ r)
      · right;omega
    · rcases hp2 j h with r | r
      · exact .inl (List.mem_append_right _ r)
      · right;omega
def putW(w i:Int):Int:=if i=0 then w else 0
theorem pM{A:zV}{nb:Nat}{tag typ more:Int}{ws is:List Int}{T:List Nat}{w i:Int}(K:KnAt A nb tag typ more ws is T)(hl:ws.length<=100000000/\is.length<=100000000):
    aT.C (some ⟨nb,0,none⟩) w i A (λv A'=> ∃T',KnAt A' nb tag typ more (ws++[putW w i]) (is++[i]) T'/\Fr (nb::T) A A'/\ ∀j∈T',j∈T\/A.size<=j):=by
  refine HC.via λR hR=>aT.link ?_
  unfold aT.pt
  by_cases hi:i=0
  · rw[if_pos hi]
    have e:putW w i=w:=if_pos hi
    rw[e]at hR
    exact np K hl (λA' T' h1 h2 h3=>hR _ _ ⟨T',h1,h2,h3⟩)
  · rw[if_neg hi]
    have e:putW w i=0:=if_neg hi
    rw[e]at hR
    exact np K hl (λA' T' h1 h2 h3=>hR _ _ ⟨T',h1,h2,h3⟩)

def numOf(L:List Int)(w:Int):Int:=if w∈L then((L.idxOf w+1:Nat):Int)else 0
def isF(m:Mem)(L:List Int)(w:Int)(p:Int×Int):Int:=if numOf L p.2=0/\w % 8=2/\p.1=aOf w/\m.sizeOf p.2>0 then-1 else numOf L p.2
def nq(m:Mem)(L:List Int)(w:Int)(p:Int×Int):Int:=putW p.2 (isF m L w p)
theorem Came.num{m:Mem}{roots:List Int}{A:zV}{B:zW}{c mr:Nat}{L:List Int}(C:Came m roots A B c mr L)(v:Int):
    ∃(es:Array MapEntry) (cl:Nat) (ks:List (Int×Value)),A[mr]?=some (.map es cl)/\Ents (bT .u64) es.toList ks/\ ∃x:Int,(mget ks v).getD (.int .i64 0)=.int .i64 x/\x=numOf L v:=by
  obtain⟨es,cl,ks,h1,h2,h3⟩:=C.map
  refine⟨es,cl,ks,h1,h2,numOf L v,?_,rfl⟩
  rw[h3 v]
  unfold numOf
  split<;>rfl
theorem qr{D H20 Hx:zV}{lp nb z:Nat}{rc:LoopState->Option Code->Obj}{tag typ more:Int}{ws is:List Int}{U U2:List Nat}(f5:Fr [lp] D H20)(hD:H20.size=D.size)(hlp:lp ∉ U/\lp≠nb/\lp<D.size)(q:H20[lp]?=some (rc .busy none))(hz:z<=D.size)(hU: ∀j∈U,z<=j)
    (K2:KnAt Hx nb tag typ more ws is U2) (f2:Fr (nb::U) H20 Hx) (hU2: ∀j∈U2,j∈U\/H20.size<=j):
    Hx[lp]?=some (rc .busy none)/\ ∃T':List Nat,((aF Hx lp (rc .ready none))[lp]?=some (rc .ready none)/\KnAt (aF Hx lp (rc .ready none)) nb tag typ more ws is T'/\ ∀j∈T',z<=j)/\
      Fr ([lp,nb]++U) D (aF Hx lp (rc .ready none))/\ ∀j∈T',j∈U\/D.size<=j:=by
  obtain⟨l1,l2,l3⟩:=hlp
  have qx:=f2.get (by simp;exact⟨l2,l1⟩) q
  have f9:Fr [lp] Hx (aF Hx lp (rc .ready none)):=Fr.set
  have hU2lp: ∀j∈U2,j≠lp:=λj hj e=>by
    rcases hU2 j hj with h | h
    · exact l1 (e▸h)
    · omega
  refine⟨qx,U2,⟨aX (aO qx),K2.keep f9 (by simp;omega) (λj hj=>by simp;exact hU2lp j hj),λj hj=>?_⟩,?_,λj hj=>?_⟩
  · rcases hU2 j hj with h | h
    · exact hU j h
    · omega
  · exact((f5.mono (λi hi _=>by simp at hi;simp[hi])).trans (f2.mono (λi hi _=>by
      rcases List.mem_cons.1 hi with h | h<;>simp[h]))).trans (f9.mono (λi hi _=>by simp at hi;simp[hi]))
  · rcases hU2 j hj with h | h
    · exact .inl h
    · right;omega
set_option maxRecDepth 100000 in
theorem qs{D:zV}{b:Blk}{x:Hp}{bh bw b2 nb mr lp c z:Nat}{B:zW}{w a v tag typ more:Int}{roots L ws is:List Int}{rc:LoopState->Option Code->Obj}{U:List Nat}{K:zv}
    (hp:HpAt D b x) (ok:SpOK x.sp) (g0:D[bh]?=some (.cells #[.pointer (some ⟨b.h,0,none⟩)] 28 (0,0))) (g5:D[bw]?=some (.cells #[.int .u64 w] 40 (0,0))) (g2:D[b2]?=some (.cells #[.map (some mr)] 100 (0,0)))
    (C:Came x.sp.mem roots D B c mr L) (hw:aP w) (hv:aP v) (Kn:KnAt D nb tag typ more ws is U) (hlen:ws.length<=1000/\is.length<=1000) (ql:D[lp]?=some (rc .ready none))
    (hl:lp ∉ b.all/\lp ∉ U/\lp≠bh/\lp≠bw/\lp≠b2/\lp≠nb/\lp≠mr/\lp ∉ blks B) (hz:z<=D.size) (hU: ∀j∈U,z<=j)
    (hK: ∀A',(∃T':List Nat,(A'[lp]?=some (rc .ready none)/\KnAt A' nb tag typ more (ws++[nq x.sp.mem L w (a,v)]) (is++[isF x.sp.mem L w (a,v)]) T'/\ ∀j∈T',z<=j)/\Fr ([lp,nb]++U) D A'/\ ∀j∈T',j∈U\/D.size<=j)->K (.bool true) A'):
    ( D[lp]? = some (rc .ready none) ∧ ∀ H20 : Array Obj, H20 = aF D lp (rc .busy none) →
           ∃x_19:Option Nat,hat H20 (Addr.mk b2 0 none)=some (.map x_19)/\
           ∃mr_2:Nat,x_19=some mr_2/\
           ∃(es_2:Array MapEntry) (cl_2:Nat) (ks_2:List (Int×Value)),H20[mr_2]?=some (.map es_2 cl_2)/\Ents (bT .u64) es_2.toList ks_2/\
           ∃x_20:Int,(mget ks_2 v).getD (.int .i64 0)=.int .i64 x_20/\
           if x_20=0 then(
            ∃x_21:Int,hat H20 (Addr.mk bw 0 none)=some (.int .u64 x_21)/\
            bZ.C x_21 H20 (λv_7 H21=> ∃x_22:Int,v_7=.int .i64 x_22/\
             if x_22=2 then(
              ∃x_23:Int,hat H21 (Addr.mk bw 0 none)=some (.int .u64 x_23)/\
              cV.C x_23 H21 (λv_8 H22=> ∃x_24:Int,v_8=.int .i64 x_24/\
               if a=x_24 then(
                ∃x_25:zW,hat H22 (Addr.mk bh 0 none)=some (.pointer x_25)/\
                bE.C x_25 v H22 (λv_9 H23=> ∃x_26:Int,v_9=.int .i64 x_26/\
                 if x_26>0 then(
                  aT.C (some (Addr.mk nb 0 none)) v (-1) H23 (λ_ H24=>
                   H24[lp]?=some (rc .busy none)/\
                   K (.bool true) (aF H24 lp (rc .ready none))))
                 else
                 aT.C (some (Addr.mk nb 0 none)) v x_20 H23 (λ_ H25=>
                  H25[lp]?=some (rc .busy none)/\
                  K (.bool true) (aF H25 lp (rc .ready none)))))
               else
               aT.C (some (Addr.mk nb 0 none)) v x_20 H22 (λ_ H26=>
                H26[lp]?=some (rc .busy none)/\
                K (.bool true) (aF H26 lp (rc .ready none)))))
             else
             aT.C (some (Addr.mk nb 0 none)) v x_20 H21 (λ_ H27=>
              H27[lp]?=some (rc .busy none)/\
              K (.bool true) (aF H27 lp (rc .ready none)))))
           else
           aT.C (some (Addr.mk nb 0 none)) v x_20 H20 (λ_ H28=>
            H28[lp]?=some (rc .busy none)/\
            K (.bool true) (aF H28 lp (rc .ready none)))):=by
  obtain⟨l1,l2,l3,l4,l5,l6,l7,l8⟩:=hl
  refine⟨ql,λH20 hH20=>?_⟩
  have f5:Fr [lp] D H20:=by rw[hH20];exact Fr.set
  have z20:H20.size=D.size:=by rw[hH20];simp
  have ql20:H20[lp]?=some (rc .busy none):=by rw[hH20];exact aX (aO ql)
  have ns: ∀j,lp≠j->j ∉ [lp]:=λj h=>by simp;exact λe=>h e.symm
  have hll:=aO ql
  have C20:=C.keep f5 (λj hj=>ns _ (λe=>l8 (e▸hj))) (ns _ l7)
  have g20:=f5.get (ns _ l5) g2
  have w20:=f5.get (ns _ l4) g5
  have h20:=f5.get (ns _ l3) g0
  have hp20:=hp.keep f5 (λi hi2 hq=>by simp at hi2;exact l1 (hi2▸hq))
  have K20:=Kn.keep f5 (ns _ l6) (λj hj=>ns _ (λe=>l2 (e▸hj)))
  clear hH20
  obtain⟨es,cl,ks,m1,m2,n,m3,hn⟩:=C20.num v
  have put : ∀ {Hs : Array Obj} {i : Int}, Ext H20 Hs → i = isF x.sp.mem L w (a, v) → aT.C (some (Addr.mk nb 0 none)) v i Hs (fun _ Hx =>
                  Hx[lp]?=some (rc .busy none)/\
                  K (.bool true) (aF Hx lp (rc .ready none))):=λ{Hs i} e hi=>by
    refine HC.mono (pM (K20.ext e) ⟨by omega,by omega⟩) ?_
    rintro _ Hx ⟨T2,K2,f2,hT2⟩
    have ze:=e.size
    rw[hi]at K2
    obtain⟨d1,d2⟩:=qr f5 z20 ⟨l2,l6,hll⟩ ql20 hz hU K2 (e.fr.trans f2) (λj hj=>by
      rcases hT2 j hj with h | h
      · exact .inl h
      · right;omega)
    exact⟨d1,hK _ d2⟩
  refine⟨some mr,by rw[aI g20];rfl,mr,rfl,es,cl,ks,m1,m2,n,m3,?_⟩
  by_cases hn0:n=0
  case neg=>
    rw[if_neg hn0]
    refine put (Ext.refl _) ?_
    unfold isF;rw[if_neg (λq=>hn0 (hn.trans q.1))];exact hn
  rw[if_pos hn0]
  refine⟨w,by rw[aI w20];rfl,HC.mono (fK hw) ?_⟩
  rintro _ H21 ⟨rfl,e21⟩
  refine⟨_,rfl,?_⟩
  by_cases h2:w % 8=2
  case neg=>
    rw[if_neg h2]
    refine put e21 ?_
    unfold isF;rw[if_neg (λq=>h2 q.2.1)];exact hn
  rw[if_pos h2]
  refine⟨w,by rw[aI (e21.get w20)];rfl,HC.mono (kf hw) ?_⟩
  rintro _ H22 ⟨rfl,e22⟩
  refine⟨_,rfl,?_⟩
  have e02:=e21.trans e22
  by_cases ha:a=aOf w
  case neg=>
    rw[if_neg ha]
    refine put e02 ?_
    unfold isF;rw[if_neg (λq=>ha q.2.2.1)];exact hn
  rw[if_pos ha]
  refine⟨_,by rw[aI (e02.get h20)];rfl,HC.mono (iZ (.real (hp20.ext e02) ok) hv) ?_⟩
  have hm:mof (some (b,x))=x.sp.mem:=rfl
  rw[hm]
  rintro _ H23 ⟨rfl,e23⟩
  refine⟨_,rfl,?_⟩
  have e03:=e02.trans e23
  by_cases hs:x.sp.mem.sizeOf v>0
  · rw[if_pos hs]
    refine put e03 ?_
    unfold isF;rw[if_pos ⟨hn.symm.trans hn0,h2,ha,hs⟩]
  · rw[if_neg hs]
    refine put e03 ?_
    unfold isF;rw[if_neg (λq=>hs q.2.2.2)];exact hn
