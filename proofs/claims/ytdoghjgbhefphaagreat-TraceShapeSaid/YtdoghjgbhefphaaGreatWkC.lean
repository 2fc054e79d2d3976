/-
 A picture is made (package morainelaw11). Proves nothing of any one statement.
-/
import Derived.Test.YtdoghjgbhefphaaGreatWkB
set_option linter.unusedVariables false
set_option linter.unusedSimpArgs false
namespace Go.Proofs.YtdoghjgbhefphaaGreat
open Go

set_option maxRecDepth 100000 in
set_option maxHeartbeats 1000000 in
theorem picture_c{H:Array Obj}{b:Blk}{x:Hp}{rB:Option Addr}{rN rC:Nat}{roots:List Int}(V:View H (some ⟨b.h,0,none⟩) (some (b,x)))(hs:SrcAt H rB (wvs roots))(hn:rN=roots.length)(hl:rN<=100000)(hw: ∀w∈roots,IsWord w):
  morainelaw11_picture.C (some ⟨b.h,0,none⟩) rB rN rC H (λv H'=> ∃(B:Option Addr) (n c:Nat) (ks:List Kn) (rb:List Nat),v=.slice B n c/\KnRow H' B n c ks rb/\IsPic x.sp.mem roots ks/\(∀j∈rb,H.size<=j)/\(∀j∈blks B,H.size<=j)/\Ext H H'):=by
 refine HC.via λR hR=>morainelaw11_picture.link ?_
 unfold morainelaw11_picture.pt
 subst hn
 have ok:=V.inv.2.2
 have hmo:mof (some (b,x))=x.sp.mem:=rfl
 generalize hmm:x.sp.mem=m at*
 intro bm H1 hbm hH1 bw H2 hbw hH2 b3 H3 hb3 hH3
 have e1:Ext H H1:=Ext.push' hH1
 have e2:Ext H1 H2:=Ext.push' hH2
 have e3:Ext H2 H3:=Ext.push' hH3
 have z1:H1.size=H.size+1:=by rw[hH1];simp
 have z2:H2.size=H1.size+1:=by rw[hH2];simp
 have z3:H3.size=H2.size+1:=by rw[hH3];simp
 obtain⟨hcp4,hs4⟩:=box_set (vs:=[.int .i64 (-1),.slice none 0 0,.slice none 0 0]) (push_get hb3 hH3) rfl rfl
 refine⟨hcp4,λH4 hH4=>?_⟩
 obtain⟨g34,f4⟩:=hs4 H4 hH4
 have e13:=(e1.trans e2).trans e3
 have e4:Ext H H4:=e13.fr_trans f4 (λj hj=>by simp at hj;omega)
 have z4:=f4.size
 have gw:H4[bw]?=_:=f4.get (by simp;omega) (e3.get (push_get hbw hH2))
 have gm:H4[bm]?=_:=f4.get (by simp;omega) (e3.get (e2.get (push_get hbm hH1)))
 have K4:WkAt m H4 (some ⟨b.h,0,none⟩) bw bm none 0 []:=⟨gw,⟨_,_,[],gm,rfl,λw=>by simp[mget]⟩,own_nil,⟨by omega,λj hj=>by simp at hj⟩,Alls.nil m⟩
 have P4:=K4.put0 (-1)
 refine⟨λi A=>(0<=i/\i<=roots.length)/\ ∃(B:Option Addr) (c:Nat) (wB:Option Addr) (wC:Nat) (iB:Option Addr) (iC:Nat),PutSt m A (some ⟨b.h,0,none⟩) bw bm ((roots.take i.toNat).foldl (putP m) ([],⟨-1,[],[]⟩)).1 ((roots.take i.toNat).foldl (putP m) ([],⟨-1,[],[]⟩)).2 B c wB wC iB iC/\
   A[b3]?=some (.cells #[.int .i64 (-1),.slice wB i.toNat wC,.slice iB i.toNat iC] 182 (0,0))/\Ext H A/\(∀j∈putB bw bm B wB iB,H.size<=j/\j≠b3),λi _=>(roots.length-i).toNat,
  ⟨⟨by omega,by omega⟩,none,0,none,0,none,0,P4,g34,e4,λj hj=>by simp[putB,wkB]at hj;omega⟩,?_⟩
 rintro i H5 ⟨hi,B,c,wB,wC,iB,iC,P5,g35,e5,hbig⟩
 have hfl:=foldl_len (putP_len m) (roots.take i.toNat) ([],⟨-1,[],[]⟩)
 have htl:(roots.take i.toNat).length=i.toNat:=by rw[List.length_take];omega
 have V5:=V.ext e5
 by_cases hlt:i< (roots.length:Int)
 ·rw[if_pos hlt]
  have hil:i.toNat<roots.length:=by omega
  have hsrc5:SrcAt H5 rB (wvs roots):=hs.ext e5
  obtain⟨a,ha,hata⟩: ∃a,rB=some a/\hat H5 (a.add (i.toNat*1))=some (.int .u64 roots[i.toNat]):=by
   cases rB with
   | none=>rw[SrcAt_none]at hsrc5;simp[wvs]at hsrc5;subst hsrc5;simp at hil
   | some a=>
    refine⟨a,rfl,?_⟩
    have:=rowAt_hat (show RowAt H5 a 0 (wvs roots)from hsrc5) i.toNat (.int .u64 roots[i.toNat]) (by simp[wvs,hil])
    rw[Nat.zero_add]at this;rw[Nat.mul_one];exact this
  have htk:roots.take (i+1).toNat=roots.take i.toNat++[roots[i.toNat]]:=by rw[show(i+1).toNat=i.toNat+1 by omega,List.take_succ_eq_append_getElem hil]
  have hfs:(roots.take (i+1).toNat).foldl (putP m) ([],⟨-1,[],[]⟩)=putP m ((roots.take i.toNat).foldl (putP m) ([],⟨-1,[],[]⟩)) roots[i.toNat]:=by rw[htk,List.foldl_append];rfl
  generalize hst:(roots.take i.toNat).foldl (putP m) ([],⟨-1,[],[]⟩)=st at*
  obtain⟨q1,q2,q3⟩:=hfl
  simp only[List.length_nil,Nat.zero_add]at q1 q2
  rw[htl]at q1 q2
  refine⟨-1,wB,i.toNat,wC,iB,i.toNat,iC,box_row g35,a,ha,⟨hi.1,hlt⟩,_,hata,?_⟩
  have hpc:=walk_put_c (w:=roots[i.toNat]) (o:=some (b,x)) V5 (by rw[hmo];exact P5) (hw _ (List.getElem_mem hil)) (by rw[q1];omega) (by rw[q2];omega)
  rw[q1,q2,q3,hmo]at hpc
  refine HC.mono hpc ?_
  rintro _ H6 ⟨B',c',wB',wC',iB',iC',rfl,P6,f6,hB6⟩
  refine⟨_,_,_,_,_,_,_,rfl,?_⟩
  have b3P:b3 ∉ putB bw bm B wB iB:=λq=>(hbig b3 q).2 rfl
  have g36:=f6.get b3P g35
  have b3P':b3 ∉ putB bw bm B' wB' iB':=λq=>by
   rcases hB6 b3 q with r | r
   ·exact b3P r
   ·have:=lt_size g35;omega
  obtain⟨hcp7,hs7⟩:=box_set (vs:=[.int .i64 (-1),.slice wB' (i.toNat+1) wC',.slice iB' (i.toNat+1) iC']) g36 rfl rfl
  refine⟨hcp7,λH7 hH7=>?_⟩
  obtain⟨g37,f7⟩:=hs7 H7 hH7
  have hd:((roots.length:Int)-(i+1)).toNat< ((roots.length:Int)-i).toNat:=by omega
  rw[w64 (n:=i+1) (by omega)]
  refine⟨⟨⟨by omega,by omega⟩,B',c',wB',wC',iB',iC',?_,?_,?_,λj hj=>?_⟩,hd⟩
  ·rw[hfs]
   exact P6.keep f7 (λj hj q=>by simp at hj;exact b3P' (hj▸q))
  ·rw[show(i+1).toNat=i.toNat+1 by omega];exact g37
  ·refine(e5.fr_trans f6 (λj hj=>(hbig j hj).1)).fr_trans f7 (λj hj=>by simp at hj;omega)
  ·refine⟨?_,λe=>b3P' (e▸hj)⟩
   rcases hB6 j hj with r | r
   ·exact(hbig j r).1
   ·have:=e5.size;omega
 rw[if_neg hlt]
 have hi0:i.toNat=roots.length:=by omega
 rw[hi0,List.take_length]at P5
 rw[hi0]at g35
 rw[hi0,List.take_length]at hfl
 obtain⟨q1,q2,q3⟩:=hfl
 simp only[List.length_nil,Nat.zero_add]at q1 q2
 have hal0:Alls m (roots.foldl (putP m) ([],⟨-1,[],[]⟩)).1:=P5.wk.alls
 refine⟨-1,wB,roots.length,wC,iB,roots.length,iC,box_row g35,?_⟩
 intro b4 H8 hb4 hH8
 have e8:Ext H5 H8:=Ext.push' hH8
 have z8:H8.size=H5.size+1:=by rw[hH8];simp
 have P8:=P5.ext e8
 have hp0:pic0 m roots=((roots.foldl (putP m) ([],⟨-1,[],[]⟩)).1,[(roots.foldl (putP m) ([],⟨-1,[],[]⟩)).2]):=rfl
 generalize hst:roots.foldl (putP m) ([],⟨-1,[],[]⟩)=st at*
 have hR8:KnRow H8 (some ⟨b4,0,none⟩) 1 1 [st.2] (blks wB++blks iB):=by
  refine⟨⟨[⟨st.2.kind,wB,st.2.ws.length,wC,iB,st.2.is.length,iC⟩],rfl,⟨rfl,_,push_get hb4 hH8,rfl,Nat.le_refl _,rfl,λj hj=>?_⟩,λk a a'=>?_⟩,rfl,λj hj=>?_⟩
  ·rw[q1,q2,q3]
   rcases(show j=0\/j=1\/j=2 by omega)with rfl | rfl | rfl<;>rfl
  ·have:k=0:=by simp at a;omega
   subst this
   exact P8.knAt ⟨by omega,by omega⟩
  ·have:=P8.lt j (mem_putB.2 (.inr (by simpa using hj)));exact this
 have hPlt:=P5.lt
 refine⟨λoB oN oC i A=> ∃(N:Nat) (rb:List Nat) (B:Option Addr) (c:Nat),i=((picN m (pic0 m roots) N).2.length:Int)-1/\N+1=(picN m (pic0 m roots) N).2.length/\KnRow A oB oN oC (picN m (pic0 m roots) N).2 rb/\WkAt m A (some ⟨b.h,0,none⟩) bw bm B c (picN m (pic0 m roots) N).1/\Ext H A/\(∀j∈rb,j ∉ wkB bw bm B/\H.size<=j)/\(∀j∈blks oB,j ∉ rb/\j ∉ wkB bw bm B/\H.size<=j)/\(∀j∈wkB bw bm B,H.size<=j)/\N<=(picN m (pic0 m roots) N).1.length,λ_ _ _ i _=>(600000-i).toNat,
  ⟨0,blks wB++blks iB,B,c,by show(0:Int)=((pic0 m roots).2.length:Int)-1;rw[hp0];rfl,by show 0+1=(pic0 m roots).2.length;rw[hp0];rfl,by show KnRow H8 _ 1 1 (pic0 m roots).2 _;rw[hp0];exact hR8,by show WkAt m H8 _ bw bm B c (pic0 m roots).1;rw[hp0];exact P8.wk,e5.trans e8,λj hj=>?_,λj hj=>?_,λj hj=>(hbig j (mem_putB.2 (.inl hj))).1,Nat.zero_le _⟩,?_⟩
 ·have hm:=mem_putB (bw:=bw) (bm:=bm) (B:=B) (wB:=wB) (iB:=iB) (j:=j)
  rcases List.mem_append.1 hj with r | r
  ·exact⟨(P5.djw j r).1,(hbig j (hm.2 (.inr (.inl r)))).1⟩
  ·exact⟨P5.dji j r,(hbig j (hm.2 (.inr (.inr r)))).1⟩
 ·simp at hj
  subst hj
  have z5:=e5.size
  refine⟨λr=>?_,λr=>?_,by omega⟩
  ·have:=hPlt j (mem_putB.2 (.inr (by simpa using r)));omega
  ·have:=hPlt j (mem_putB.2 (.inl r));omega
 rintro oB oN oC i9 H9 ⟨N,rb,B9,c9,hi9,hN,R9,K9,e9,hrb,hoB,hwk,hNle⟩
 generalize hpn:picN m (pic0 m roots) N=ps at*
 refine⟨_,_,_,by rw[box_get K9.cell];rfl,?_⟩
 have hal:=K9.alls.len
 have hoN:=R9.n
 by_cases hlt9:i9< (ps.1.length:Int)
 case neg=>
  rw[if_neg hlt9]
  refine hR _ _ ⟨oB,oN,oC,ps.2,rb,rfl,R9,⟨N,by rw[hpn],by rw[hpn];omega⟩,λj hj=>(hrb j hj).2,λj hj=>(hoB j hj).2.2,e9⟩
 rw[if_pos hlt9]
 have hNl:N<ps.1.length:=by omega
 have hiN:i9.toNat=N:=by omega
 have hwN:IsWord ps.1[N]/\m.sizeOf ps.1[N]≠0:=K9.alls.good _ (List.getElem_mem hNl)
 obtain⟨aw,haw,hataw⟩: ∃a,B9=some a/\hat H9 (a.add (i9.toNat*1))=some (.int .u64 ps.1[N]):=by
  have:=K9.own.at (j:=N) (v:=.int .u64 ps.1[N]) (by simp[wvs,hNl])
  rw[hiN,Nat.mul_one];exact this
 have hstep:picN m (pic0 m roots) (N+1)=((knotOf m ps.1 ps.1[N]).1,ps.2++[(knotOf m ps.1 ps.1[N]).2]):=by
  show picStep m (picN m (pic0 m roots) N)=_
  rw[hpn]
  unfold picStep
  rw[show ps.2.length-1=N by omega,List.getElem?_eq_getElem hNl]
 generalize hw9:ps.1[N]=w at*
 refine⟨_,_,_,by rw[box_get K9.cell];rfl,aw,haw,⟨by omega,hlt9⟩,w,hataw,?_⟩
 intro c5 H10 hc5 hH10
 have e10:Ext H9 H10:=Ext.push' hH10
 have z10:H10.size=H9.size+1:=by rw[hH10];simp
 obtain⟨hcp11,hs11⟩:=box_set (vs:=[.int .i64 0,.slice none 0 0,.slice none 0 0]) (push_get hc5 hH10) rfl rfl
 refine⟨hcp11,λH11 hH11=>?_⟩
 obtain⟨g511,f11⟩:=hs11 H11 hH11
 have e911:Ext H9 H11:=e10.fr_trans f11 (λj hj=>by simp at hj;omega)
 have z11:H9.size<H11.size:=by have:=f11.size;omega
 have wk9:=K9.lt
 have c5w:c5 ∉ wkB bw bm B9:=λq=>by have:=wk9 c5 q;omega
 have hrb9:=R9.lt
 have hob9: ∀j∈blks oB,j<H9.size:=λj hj=>by obtain⟨_,_,q,_⟩:=R9.row;exact q.lt j hj
 have hdm:(600000-(i9+1)).toNat< (600000-i9).toNat:=by omega
 have fin: ∀(A:Array Obj) (all':List Int) (k':Kn) (B':Option Addr) (c':Nat) (wB':Option Addr) (wC':Nat) (iB':Option Addr) (iC':Nat),PutSt m A (some ⟨b.h,0,none⟩) bw bm all' k' B' c' wB' wC' iB' iC'->Fr (c5::wkB bw bm B9) H11 A->(∀j∈putB bw bm B' wB' iB',j∈wkB bw bm B9\/H11.size<=j)->knotOf m ps.1 w=(all',k')->(k'.ws.length=k'.is.length/\k'.ws.length<=1000000)->ps.1.length<=all'.length->
   ∀(c6:Nat) (A6:Array Obj),c6=A.size->A6=A.push (.cells #[.int .i64 k'.kind,.slice wB' k'.ws.length wC',.slice iB' k'.is.length iC'] 182)->
   appendK 3 182 56 [.int .i64 0,.slice none 0 0,.slice none 0 0] oB oN oC (some (Addr.mk c6 0 none)) 1 A6 (λap apC A7=>
    (∃(N:Nat) (rb:List Nat) (B:Option Addr) (c:Nat),IntKind.wrap .i64 (i9+1)=((picN m (pic0 m roots) N).2.length:Int)-1/\N+1=(picN m (pic0 m roots) N).2.length/\KnRow A7 ap (oN+1) apC (picN m (pic0 m roots) N).2 rb/\WkAt m A7 (some ⟨b.h,0,none⟩) bw bm B c (picN m (pic0 m roots) N).1/\Ext H A7/\(∀j∈rb,j ∉ wkB bw bm B/\H.size<=j)/\(∀j∈blks ap,j ∉ rb/\j ∉ wkB bw bm B/\H.size<=j)/\(∀j∈wkB bw bm B,H.size<=j)/\N<=(picN m (pic0 m roots) N).1.length)/\(600000-IntKind.wrap .i64 (i9+1)).toNat< (600000-i9).toNat):=by
  intro A all' k' B' c' wB' wC' iB' iC' PA fA hPB hkn hlen hall c6 A6 hc6 hA6
  have zA:=fA.size
  have RA:KnRow A oB oN oC ps.2 rb:=(R9.ext e911).keep fA (λj hj=>by
   rcases List.mem_cons.1 hj with r | r
   ·subst r;exact⟨λq=>by have:=hrb9 _ q;omega,λq=>by have:=hob9 _ q;omega⟩
   ·exact⟨λq=>(hrb j q).1 r,λq=>(hoB j q).2.1 r⟩)
  have hblk: ∀j∈putB bw bm B' wB' iB',j ∉ rb/\j ∉ blks oB/\H.size<=j:=λj hj=>by
   have z9:=e9.size
   rcases hPB j hj with r | r
   ·exact⟨λq=>(hrb j q).1 r,λq=>(hoB j q).2.1 r,hwk j r⟩
   ·exact⟨λq=>by have:=hrb9 j q;omega,λq=>by have:=hob9 j q;omega,by omega⟩
  have hPlt':=PA.lt
  refine RA.snoc ⟨k'.kind,wB',k'.ws.length,wC',iB',k'.is.length,iC'⟩ k' (PA.knAt hlen) (λj hj=>hPlt' j (mem_putB.2 (.inr (by simpa using hj)))) (λj hj=>⟨(hoB j hj).1,λq=>(hblk j (mem_putB.2 (.inr (by simpa using q)))).2.1 hj⟩) (by omega) hc6 hA6 ?_
  intro B7 c7 A7 R7 f7 hn7
  have z7:=f7.size
  have eA:Ext H A:=(e9.trans e911).fr_trans fA (λj hj=>by
   rcases List.mem_cons.1 hj with r | r
   ·have:=e9.size;omega
   ·exact hwk j r)
  have K7:=PA.wk.keep f7 (λj hj q=>(hblk j (mem_putB.2 (.inl q))).2.1 hj)
  rw[w64 (n:=i9+1) (by omega)]
  refine⟨⟨N+1,rb++(blks wB'++blks iB'),B',c',?_,?_,?_,?_,eA.fr_trans f7 (λj hj=>(hoB j hj).2.2),λj hj=>?_,λj hj=>?_,λj hj=>(hblk j (mem_putB.2 (.inl hj))).2.2,?_⟩,hdm⟩
  ·rw[hstep];simp;omega
  ·rw[hstep];simp;omega
  ·rw[hstep,hkn];exact R7
  ·rw[hstep,hkn];exact K7
  ·rcases List.mem_append.1 hj with r | r
   ·exact⟨λq=>(hblk j (mem_putB.2 (.inl q))).1 r,(hrb j r).2⟩
   ·refine⟨λq=>?_,(hblk j (mem_putB.2 (.inr (by simpa using r)))).2.2⟩
    rcases List.mem_append.1 r with r | r
    ·exact(PA.djw j r).1 q
    ·exact PA.dji j r q
  ·rcases hn7 j hj with r | r
   ·refine⟨λq=>?_,λq=>(hblk j (mem_putB.2 (.inl q))).2.1 r,(hoB j r).2.2⟩
    rcases List.mem_append.1 q with q | q
    ·exact(hoB j r).1 q
    ·exact(hblk j (mem_putB.2 (.inr (by simpa using q)))).2.1 r
   ·have:=eA.size
    refine⟨λq=>?_,λq=>?_,by omega⟩
    ·rcases List.mem_append.1 q with q | q
     ·have:=hrb9 j q;omega
     ·have:=hPlt' j (mem_putB.2 (.inr (by simpa using q)));omega
    ·have:=hPlt' j (mem_putB.2 (.inl q));omega
  ·rw[hstep,hkn];show N+1<=all'.length;omega
 have vw: ∀{A:Array Obj},Fr (c5::wkB bw bm B9) H11 A->View A (some ⟨b.h,0,none⟩) (some (b,x)):=λ{A} fA=>V.ext ((e9.trans e911).fr_trans fA (λj hj=>by
  rcases List.mem_cons.1 hj with r | r
  ·have:=e9.size;omega
  ·exact hwk j r))
 have ofw_len: ∀(all:List Int) (v:Int),all.length<=(ofW m all v).length:=λall v=>by
  unfold ofW
  split
  ·exact Nat.le_refl _
  ·simp
 have lift: ∀{A A':Array Obj} {B' wB' iB':Option Addr},Fr (c5::wkB bw bm B9) H11 A->(∀j∈putB bw bm B' wB' iB',j∈wkB bw bm B9\/H11.size<=j)->Fr (putB bw bm B' wB' iB') A A'->Fr (c5::wkB bw bm B9) H11 A':=λ{A A' B' wB' iB'} fA hP f=>fA.trans' f (λj hj _=>hj) (λj hj hl=>by
  rcases hP j hj with r | r
  ·exact List.mem_cons_of_mem _ r
  ·omega)
 refine HC.mono (obj_Pair_c (vw (Fr.refl _ _)) hwN.1) ?_
 rintro _ H12 ⟨rfl,e12⟩
 rw[hmo]
 refine⟨_,rfl,?_⟩
 have hmask:iand .u64 w 7=w % 8:=iand_mask 3 (by decide) hwN.1 7 (by decide)
 rw[hmask]
 have f12:Fr (c5::wkB bw bm B9) H11 H12:=e12.fr
 have g512:=e12.get g511
 have K12:WkAt m H12 (some ⟨b.h,0,none⟩) bw bm B9 c9 ps.1:=K9.ext (e911.trans e12)
 have P12:=λkind=>K12.put0 kind
 have b0: ∀j∈putB bw bm B9 none none,j∈wkB bw bm B9\/H11.size<=j:=λj hj=>by simpa[putB]using(Or.inl hj:_\/H11.size<=j)
 have c5lt:c5<H11.size:=lt_size g511
 have c5P: ∀{B' wB' iB':Option Addr},(∀j∈putB bw bm B' wB' iB',j∈wkB bw bm B9\/H11.size<=j)->c5 ∉ putB bw bm B' wB' iB':=λ{B' wB' iB'} h q=>by
  rcases h c5 q with r | r
  ·exact c5w r
  ·omega
 by_cases hwp:m.isPair w/\w % 8=2
 ·rw[if_pos (by simp[hwp.1,hwp.2])]
  obtain⟨hcp13,hs13⟩:=box_set (vs:=[.int .i64 1,.slice none 0 0,.slice none 0 0]) g512 rfl rfl
  have hb:=box_put g512 0 (.int .i64 1) (by simp)
  rw[addr_add_mk]at hb
  refine⟨hb.1,λH13 hH13=>?_⟩
  obtain⟨g513,f13⟩:=hb.2 H13 hH13
  have f13':Fr (c5::wkB bw bm B9) H11 H13:=f12.trans (f13.mono (λj hj _=>by simp at hj;simp[hj]))
  refine HC.mono (obj_Cdr_c (vw f13') hwN.1) ?_
  rintro _ H14 ⟨rfl,e14⟩
  rw[hmo]
  refine⟨_,_,rfl,1,none,0,0,none,0,0,box_row (vs:=[.int .i64 1,.slice none 0 0,.slice none 0 0]) (e14.get g513),?_⟩
  have f14:=f13'.trans e14.fr
  have P14:=((P12 1).keep f13 (λj hj q=>by simp at hj;subst hj;exact c5w (by simpa[putB]using q))).ext e14
  have hpc:=walk_put_c (w:=m.halfW w 1) (o:=some (b,x)) (vw f14) (by rw[hmo];exact P14) (half_word (hmm▸ok.mem) w 1) (Nat.zero_le _) (Nat.zero_le _)
  refine HC.mono hpc ?_
  rintro _ H15 ⟨B',c',wB',wC',iB',iC',rfl,P15,f15,hB15⟩
  rw[hmo]at P15
  have f15':=lift f14 b0 f15
  have z14:=f14.size
  have hP15: ∀j∈putB bw bm B' wB' iB',j∈wkB bw bm B9\/H11.size<=j:=λj hj=>by
   rcases hB15 j hj with r | r
   ·exact b0 j r
   ·exact .inr (by omega)
  have c5P':c5 ∉ putB bw bm B' wB' iB':=c5P hP15
  have g515:=f15.get (c5P b0) (e14.get g513)
  refine⟨_,_,_,_,_,_,_,rfl,?_⟩
  obtain⟨hcp16,hs16⟩:=box_set (vs:=[.int .i64 1,.slice wB' (0+1) wC',.slice iB' (0+1) iC']) g515 rfl rfl
  refine⟨hcp16,λH16 hH16=>?_⟩
  obtain⟨g516,f16⟩:=hs16 H16 hH16
  refine⟨1,wB',0+1,wC',iB',0+1,iC',box_row g516,?_⟩
  have P16:=P15.keep f16 (λj hj q=>by simp at hj;subst hj;exact c5P' q)
  have hkn:knotOf m ps.1 w=(ofW m ps.1 (m.halfW w 1),(⟨1,[],[]⟩:Kn).add (numW m ps.1 (m.halfW w 1)) (m.halfW w 1)):=by unfold knotOf;rw[if_pos hwp];rfl
  exact fin H16 _ _ B' c' wB' wC' iB' iC' P16 (f15'.trans (f16.mono (λj hj _=>by simp at hj;simp[hj]))) hP15 hkn ⟨rfl,by show 1<=1000000;omega⟩ (ofw_len _ _)
 rw[if_neg (by simp;exact λq r=>hwp ⟨q,r⟩)]
 refine HC.mono (obj_Pair_c (vw f12) hwN.1) ?_
 rintro _ H19 ⟨rfl,e19⟩
 rw[hmo]
 refine⟨_,rfl,?_⟩
 have f19:=f12.trans e19.fr
 by_cases hp:m.isPair w
 ·rw[if_pos (decide_eq_true hp)]
  refine HC.mono (obj_Car_c (vw f19) hwN.1) ?_
  rintro _ H20 ⟨rfl,e20⟩
  rw[hmo]
  refine⟨_,_,rfl,?_⟩
  have f20:=f19.trans e20.fr
  refine HC.mono (obj_Cdr_c (vw f20) hwN.1) ?_
  rintro _ H21 ⟨rfl,e21⟩
  rw[hmo]
  have f21:=f20.trans e21.fr
  have e1221:=(e19.trans e20).trans e21
  have g521:=e1221.get g512
  refine⟨_,_,rfl,0,none,0,0,none,0,0,box_row (vs:=[.int .i64 0,.slice none 0 0,.slice none 0 0]) g521,?_⟩
  have P21:=(P12 0).ext e1221
  have hpc:=walk_put_c (w:=m.halfW w 0) (o:=some (b,x)) (vw f21) (by rw[hmo];exact P21) (half_word (hmm▸ok.mem) w 0) (Nat.zero_le _) (Nat.zero_le _)
  refine HC.mono hpc ?_
  rintro _ H22 ⟨B',c',wB',wC',iB',iC',rfl,P22,f22,hB22⟩
  rw[hmo]at P22
  have f22':=lift f21 b0 f22
  have z21:=f21.size
  have hP22: ∀j∈putB bw bm B' wB' iB',j∈wkB bw bm B9\/H11.size<=j:=λj hj=>by
   rcases hB22 j hj with r | r
   ·exact b0 j r
   ·exact .inr (by omega)
  refine⟨_,_,_,_,_,_,_,rfl,?_⟩
  have hpc2:=walk_put_c (w:=m.halfW w 1) (o:=some (b,x)) (vw f22') (by rw[hmo];exact P22) (half_word (hmm▸ok.mem) w 1) (by show 1<=1000000;omega) (by show 1<=1000000;omega)
  refine HC.mono hpc2 ?_
  rintro _ H23 ⟨B'',c'',wB'',wC'',iB'',iC'',rfl,P23,f23,hB23⟩
  rw[hmo]at P23
  have f23':=lift f22' hP22 f23
  have z22:=f22'.size
  have hP23: ∀j∈putB bw bm B'' wB'' iB'',j∈wkB bw bm B9\/H11.size<=j:=λj hj=>by
   rcases hB23 j hj with r | r
   ·exact hP22 j r
   ·exact .inr (by omega)
  have g523:=f23.get (c5P hP22) (f22.get (c5P b0) g521)
  refine⟨_,_,_,_,_,_,_,rfl,?_⟩
  obtain⟨hcp16,hs16⟩:=box_set (vs:=[.int .i64 0,.slice wB'' (1+1) wC'',.slice iB'' (1+1) iC'']) g523 rfl rfl
  refine⟨hcp16,λH24 hH24=>?_⟩
  obtain⟨g524,f24⟩:=hs16 H24 hH24
  refine⟨0,wB'',1+1,wC'',iB'',1+1,iC'',box_row g524,?_⟩
  have P24:=P23.keep f24 (λj hj q=>by simp at hj;subst hj;exact c5P hP23 q)
  have hkn:knotOf m ps.1 w=putP m (putP m (ps.1,⟨0,[],[]⟩) (m.halfW w 0)) (m.halfW w 1):=by unfold knotOf;rw[if_neg hwp,if_pos hp]
  exact fin H24 _ _ B'' c'' wB'' wC'' iB'' iC'' P24 (f23'.trans (f24.mono (λj hj _=>by simp at hj;simp[hj]))) hP23 hkn ⟨rfl,by show 2<=1000000;omega⟩ (Nat.le_trans (ofw_len _ _) (ofw_len _ _))
 rw[if_neg (by simpa using hp)]
 refine HC.mono (obj_Type_c (vw f19) hwN.1) ?_
 rintro _ H27 ⟨rfl,e27⟩
 rw[hmo]
 refine⟨_,rfl,?_⟩
 have f27:=f19.trans e27.fr
 have g527:=(e19.trans e27).get g512
 have htr:=m.typ_rng w
 rw[w64 (n:=m.typ w+1) (by omega)]
 have hb:=box_put g527 0 (.int .i64 (m.typ w+1)) (by simp)
 rw[addr_add_mk]at hb
 refine⟨hb.1,λH28 hH28=>?_⟩
 obtain⟨g528,f28⟩:=hb.2 H28 hH28
 have f28':Fr (c5::wkB bw bm B9) H11 H28:=f27.trans (f28.mono (λj hj _=>by simp at hj;simp[hj]))
 have P28:=((P12 (m.typ w+1)).ext (e19.trans e27)).keep f28 (λj hj q=>by simp at hj;subst hj;exact c5P b0 q)
 have hlr:=m.len_rng w
 have okm:MemOK m:=hmm▸ok.mem
 refine⟨λnv A=>(0<=nv/\nv<=m.len w)/\ ∃(B':Option Addr) (c':Nat) (wB':Option Addr) (wC':Nat) (iB':Option Addr) (iC':Nat),PutSt m A (some ⟨b.h,0,none⟩) bw bm (((m.objs w (m.len w).toNat).take nv.toNat).foldl (objStep m w) (ps.1,⟨m.typ w+1,[],[]⟩)).1 (((m.objs w (m.len w).toNat).take nv.toNat).foldl (objStep m w) (ps.1,⟨m.typ w+1,[],[]⟩)).2 B' c' wB' wC' iB' iC'/\
   A[c5]?=some (.cells #[.int .i64 (m.typ w+1),.slice wB' nv.toNat wC',.slice iB' nv.toNat iC'] 182 (0,0))/\Fr (c5::wkB bw bm B9) H11 A/\(∀j∈putB bw bm B' wB' iB',j∈wkB bw bm B9\/H11.size<=j)/\ps.1.length<=(((m.objs w (m.len w).toNat).take nv.toNat).foldl (objStep m w) (ps.1,⟨m.typ w+1,[],[]⟩)).1.length,λnv _=>(100-nv).toNat,
  ⟨⟨by omega,by omega⟩,B9,c9,none,0,none,0,P28,g528,f28',b0,Nat.le_refl _⟩,?_⟩
 rintro nv H29 ⟨hnv,B',c',wB',wC',iB',iC',P29,g529,f29,hP29,hall⟩
 refine HC.mono (obj_Len_c (vw f29) hwN.1) ?_
 rintro _ H30 ⟨rfl,e30⟩
 rw[hmo]
 refine⟨_,rfl,?_⟩
 have f30:=f29.trans e30.fr
 have hol:(m.objs w (m.len w).toNat).length=(m.len w).toNat:=by simp[Mem.objs]
 have htl2:((m.objs w (m.len w).toNat).take nv.toNat).length=nv.toNat:=by rw[List.length_take,hol];omega
 have hfl2:=foldl_len (objStep_len m w) ((m.objs w (m.len w).toNat).take nv.toNat) (ps.1,⟨m.typ w+1,[],[]⟩)
 rw[htl2]at hfl2
 simp only[List.length_nil,Nat.zero_add]at hfl2
 by_cases hnl:nv<m.len w
 case neg=>
  rw[if_neg hnl]
  have hne:nv.toNat=(m.len w).toNat:=by omega
  refine⟨_,_,_,_,_,_,_,box_row (vs:=[.int .i64 (m.typ w+1),.slice wB' nv.toNat wC',.slice iB' nv.toNat iC']) (e30.get g529),?_⟩
  have P30:=P29.ext e30
  have hkn:knotOf m ps.1 w=((m.objs w (m.len w).toNat).take nv.toNat).foldl (objStep m w) (ps.1,⟨m.typ w+1,[],[]⟩):=by
   unfold knotOf
   rw[if_neg hwp,if_neg hp,List.take_of_length_le (by omega)]
  generalize ((m.objs w (m.len w).toNat).take nv.toNat).foldl (objStep m w) (ps.1,⟨m.typ w+1,[],[]⟩)=fs at*
  obtain⟨r1,r2,r3⟩:=hfl2
  have:=fin H30 fs.1 fs.2 B' c' wB' wC' iB' iC' P30 f30 hP29 hkn ⟨by omega,by omega⟩ hall
  rw[r1,r2,r3]at this
  exact this
 rw[if_pos hnl]
 refine HC.mono (obj_Type_c (vw f30) hwN.1) ?_
 rintro _ H31 ⟨rfl,e31⟩
 rw[hmo]
 refine⟨_,rfl,?_⟩
 have f31:=f30.trans e31.fr
 refine HC.mono (obj_Get_c (vw f31) hwN.1 (by omega)) ?_
 rintro _ H32 ⟨rfl,e32⟩
 rw[hmo]
 refine⟨_,_,rfl,?_⟩
 have f32:=f31.trans e32.fr
 have e2932:=(e30.trans e31).trans e32
 have hnl2:nv.toNat< (m.len w).toNat:=by omega
 have hnn:((nv.toNat:Nat):Int)=nv:=by omega
 have hfs:((m.objs w (m.len w).toNat).take (nv+1).toNat).foldl (objStep m w) (ps.1,⟨m.typ w+1,[],[]⟩)=objStep m w (((m.objs w (m.len w).toNat).take nv.toNat).foldl (objStep m w) (ps.1,⟨m.typ w+1,[],[]⟩)) (m.fieldW w nv):=by
  rw[show(nv+1).toNat=nv.toNat+1 by omega,Mem.objs_take m w hnl2,List.foldl_append,hnn];rfl
 have hvv:(if m.fieldE w (m.typ w) nv=0 then m.get (w / 8+1+nv)else 0)=m.fieldW w nv:=rfl
 rw[hvv]
 refine⟨λs A=>s=decide (m.rawT w)/\Ext H32 A,?_,?_⟩
 ·refine HC.mono (obj_Type_c (vw f32) hwN.1) ?_
  rintro _ H42 ⟨rfl,e42⟩
  rw[hmo]
  refine⟨_,rfl,?_⟩
  by_cases h2:m.typ w=2
  ·rw[if_pos h2]
   exact⟨(decide_eq_true (.inl h2)).symm,e42⟩
  ·rw[if_neg h2]
   refine HC.mono (obj_Type_c (vw (f32.trans e42.fr)) hwN.1) ?_
   rintro _ H43 ⟨rfl,e43⟩
   rw[hmo]
   refine⟨_,rfl,?_,e42.trans e43⟩
   by_cases h3:m.typ w=3
   ·rw[decide_eq_true (show m.rawT w from .inr h3),h3];rfl
   ·rw[decide_eq_false (show ¬m.rawT w from λq=>q.elim h2 h3)];simp[h3]
 rintro s89 H33 ⟨rfl,e33⟩
 have f33:=f32.trans e33.fr
 have P33:=P29.ext (e2932.trans e33)
 have g533:=(e2932.trans e33).get g529
 have hd:(100-(nv+1)).toNat< (100-nv).toNat:=by omega
 have hwn:IntKind.wrap .i64 (nv+1)=nv+1:=w64 (by omega)
 have hsn:(nv+1).toNat=nv.toNat+1:=by omega
 generalize hfs0:((m.objs w (m.len w).toNat).take nv.toNat).foldl (objStep m w) (ps.1,⟨m.typ w+1,[],[]⟩)=fs at*
 obtain⟨r1,r2,r3⟩:=hfl2
 have z33:=f33.size
 by_cases hrw:m.rawT w
 ·rw[if_pos (decide_eq_true hrw)]
  have hfs1:objStep m w fs (m.fieldW w nv)=(fs.1,fs.2.raw (m.fieldW w nv)):=by unfold objStep;rw[if_pos hrw]
  rw[hfs1]at hfs
  refine P33.raw (c5P hP29) (by rw[r1,r2,r3];exact g533) (by omega) (by omega) ?_
  intro H39 wB2 wC2 iB2 iC2 P39 g539 f39 hb39
  rw[hwn]
  have f39':Fr (c5::wkB bw bm B9) H11 H39:=f33.trans' f39 (λj hj _=>hj) (λj hj hl=>by
   rcases List.mem_cons.1 hj with q | q
   ·simp[q]
   ·rcases hP29 j (mem_putB.2 (.inr (by simpa using q)))with r | r
    ·exact List.mem_cons_of_mem _ r
    ·omega)
  refine⟨⟨⟨by omega,by omega⟩,B',c',wB2,wC2,iB2,iC2,by rw[hfs];exact P39,by rw[hsn];rw[r1,r2,r3]at g539;exact g539,f39',λj hj=>?_,by rw[hfs];exact hall⟩,hd⟩
  rcases hb39 j hj with r | r
  ·exact hP29 j r
  ·exact .inr (by omega)
 ·rw[if_neg (by simpa using hrw)]
  have hfs1:objStep m w fs (m.fieldW w nv)=putP m fs (m.fieldW w nv):=by unfold objStep;rw[if_neg hrw]
  rw[hfs1]at hfs
  refine⟨_,_,_,_,_,_,_,box_row (vs:=[.int .i64 (m.typ w+1),.slice wB' nv.toNat wC',.slice iB' nv.toNat iC']) g533,?_⟩
  have hpc:=walk_put_c (w:=m.fieldW w nv) (o:=some (b,x)) (vw f33) (by rw[hmo];exact P33) (field_word okm w nv) (by omega) (by omega)
  rw[r1,r2,r3,hmo]at hpc
  refine HC.mono hpc ?_
  rintro _ H40 ⟨B2,c2,wB2,wC2,iB2,iC2,rfl,P40,f40,hb40⟩
  refine⟨_,_,_,_,_,_,_,rfl,?_⟩
  have hP40: ∀j∈putB bw bm B2 wB2 iB2,j∈wkB bw bm B9\/H11.size<=j:=λj hj=>by
   rcases hb40 j hj with r | r
   ·exact hP29 j r
   ·exact .inr (by omega)
  have g540:=f40.get (c5P hP29) g533
  obtain⟨hcp41,hs41⟩:=box_set (vs:=[.int .i64 (m.typ w+1),.slice wB2 (nv.toNat+1) wC2,.slice iB2 (nv.toNat+1) iC2]) g540 rfl rfl
  refine⟨hcp41,λH41 hH41=>?_⟩
  obtain⟨g541,f41⟩:=hs41 H41 hH41
  have f40':=lift f33 hP29 f40
  rw[hwn]
  refine⟨⟨⟨by omega,by omega⟩,B2,c2,wB2,wC2,iB2,iC2,by rw[hfs];exact P40.keep f41 (λj hj q=>by simp at hj;subst hj;exact c5P hP40 q),by rw[hsn];exact g541,f40'.trans (f41.mono (λj hj _=>by simp at hj;simp[hj])),hP40,by rw[hfs];exact Nat.le_trans hall (ofw_len _ _)⟩,hd⟩
end Go.Proofs.YtdoghjgbhefphaaGreat
