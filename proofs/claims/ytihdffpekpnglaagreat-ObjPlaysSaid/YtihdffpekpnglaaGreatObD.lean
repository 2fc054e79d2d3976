/-
  The document's numbers: Of, Int, Num (moraineref02, moraineref10). Proves nothing of any one statement.
-/
import Derived.Test.YtihdffpekpnglaaGreatObB
import Derived.Test.YtihdffpekpnglaaGreatBothC
import Derived.Test.YtihdffpekpnglaaGreatHelp10
set_option linter.unusedVariables false
set_option linter.unusedSimpArgs false
namespace Go.Proofs.YtihdffpekpnglaaGreat
open Go

theorem nu{S:List Nat}{H H':zW}{p:zY}{xs:List Value}(h:cY H p xs)(f:Fr S H H')(hd: ∀i∈blks p,i ∉ S):cY H' p xs:=by
  cases p with
  | none=>exact h
  | some a=>exact f.rowAt (hd _ (by simp)) h
theorem so{x:Int}(hx:I64 x): ∀y∈ofL x,fM y:=by
  have hm:0<=mag x/\mag x<=9223372036854775808:=by have h1:=hx.1;have h2:=hx.2;unfold mag;split<;>omega
  intro y hy
  unfold ofL at hy
  simp at hy
  unfold fM
  rcases hy with rfl | rfl<;>omega
theorem kK{ls:List Int}{k:Nat}(h:jr ls k)(hlm: ∀x∈ls,fM x)(neg:Bool):(neg && decide ((k:Int)>0))=(neg && decide (0<top ls)):=by
  have:=h.top hlm
  congr 1
  exact decide_eq_decide.2 (by omega)
theorem nw{H:zW}{x:Int}(hx:I64 x):
    eB.C x H (λv H'=> ∃B n c,v=.agg #[.bool (eU (decide (x<0)) (ofL x)).1,.slice B n c]/\n=(eU (decide (x<0)) (ofL x)).2.1.length/\cY H' B (lvs (eU (decide (x<0)) (ofL x)).2.1)/\(∀j∈blks B,H.size<=j)/\Ext H H'):=by
  refine HC.via λR hR=>eB.link ?_
  unfold eB.pt
  intro b H1 hb hH1
  have e1:Ext H H1:=Ext.push' hH1
  have hg:=aO hb hH1
  have hbs:=bI hg
  have hlm:=so hx
  have l2:(ofL x).length=2:=rfl
  have htop: ¬48<top (ofL x):=by have:=j1 (ofL x);omega
  have hnr:eU (decide (x<0)) (ofL x)=(decide (x<0) && decide (0<top (ofL x)),trim (ofL x),0):=by unfold eU;rw[if_neg htop]
  rw[hnr]at hR
  have key: ∀(b2:Nat) (H2:zW),b2=H1.size->H2=H1.push (.cells #[.int .u32 (mag x % 4294967296),.int .u32 (mag x / 4294967296)] 154)->
      bK.C (decide (x<0)) (some (Addr.mk b2 0 none)) 2 2 H2 (λv H3=> ∃xNeg:Bool,∃xBitsB:zY,∃xBitsN:Nat,∃xBitsC:Nat,v=.agg #[.bool xNeg,.slice xBitsB xBitsN xBitsC]/\
       cQ.C xNeg xBitsB xBitsN xBitsC H3 (λv_2 H4=> ∃raNeg:Bool,∃raMagB:zY,∃raMagN:Nat,∃raMagC:Nat,∃rb:Int,v_2=.tuple #[.agg #[.bool raNeg,.slice raMagB raMagN raMagC],.int .i64 rb]/\
        ∀(b_3:Nat) (H5:zW),b_3=H4.size->H5=H4.push (.cells #[.bool false,.slice none 0 0] 39)->
        (aJ H5 (Addr.mk b_3 0 none) 0 2)/\ ∀H6:zW,H6=aP H5 (Addr.mk b_3 0 none) [.bool raNeg,.slice raMagB raMagN raMagC] 0->
        ∃xNeg_2:Bool,∃xMagB:zY,∃xMagN:Nat,∃xMagC:Nat,aG H6 (Addr.mk b_3 0 none) 0 [.bool xNeg_2,.slice xMagB xMagN xMagC]/\
        (aJ H6 (Addr.mk b 0 none) 0 2)/\ ∀H7:zW,H7=aP H6 (Addr.mk b 0 none) [.bool xNeg_2,.slice xMagB xMagN xMagC] 0->
        ∃rNeg:Bool,∃rMagB:zY,∃rMagN:Nat,∃rMagC:Nat,aG H7 (Addr.mk b 0 none) 0 [.bool rNeg,.slice rMagB rMagN rMagC]/\
        R (.agg #[.bool rNeg,.slice rMagB rMagN rMagC]) H7)):=by
    intro b2 H2 hb2 hH2
    have e2:Ext H1 H2:=Ext.push' hH2
    have hg2:=aO hb2 hH2
    refine HC.mono (jq (ls:=ofL x) (dH hg2 _ 0 0 (λj hj=>by simp[ofL,lvs])) rfl (by decide)) ?_
    rintro _ H3 ⟨B,k,c,rfl,q1,q2,q3,q5,q4,e3⟩
    have iv:jr (ofL x) k:=⟨q1,q3,q5⟩
    refine⟨_,_,_,_,rfl,?_⟩
    refine HC.mono (lQ q4 iv.len.symm (by omega)) ?_
    rintro _ H4 ⟨neg',mB',mN',mC',ls',e,rfl,⟨hbig,_⟩,hok,e4⟩
    have he:e=0:=hbig.2 (by omega)
    obtain⟨h2,h3,h4,h5,h6⟩:=hok he
    have hl5:ls'=trim (ofL x):=by rw[h5];exact iv.trim hlm
    have hn2:neg'=(decide (x<0) && decide (0<top (ofL x))):=by rw[h2];exact kK iv hlm _
    refine⟨_,_,_,_,_,rfl,?_⟩
    intro b3 H5 hb3 hH5
    obtain⟨p1,p2⟩:=fE (vs:=[.bool neg',.slice mB' mN' mC']) hb3 hH5 rfl rfl
    refine⟨p1,λH6 hH6=>?_⟩
    obtain⟨g6,e6⟩:=p2 H6 hH6
    refine⟨_,_,_,_,bQ g6,?_⟩
    have e16:=((e2.trans e3).trans e4).trans e6
    obtain⟨p3,p4⟩:=iH (vs:=[.bool neg',.slice mB' mN' mC']) (e16.get hg) rfl rfl
    refine⟨p3,λH7 hH7=>?_⟩
    obtain⟨g7,f7⟩:=p4 H7 hH7
    have z3:=(e2.trans e3).size
    have z1:=e1.size
    refine⟨_,_,_,_,bQ g7,hR _ _ ⟨mB',mN',mC',by rw[hn2],by rw[h3,hl5],?_,λj hj=>by have:=h6 j hj;omega,(e1.trans e16).fr_trans f7 (λi hi=>by simp at hi;omega)⟩⟩
    rw[<-hl5]
    exact nu (h4.ext e6) f7 (λi hi=>by have:=h6 i hi;simp;omega)
  have hx1:=hx.1
  have hx2:=hx.2
  by_cases hneg:x<0
  · rw[if_pos hneg]
    intro b2 H2 hb2 hH2
    have hm:IntKind.wrap .u64 (0-IntKind.wrap .u64 x)=mag x:=by rw[jU,jU];unfold mag;rw[if_pos hneg];omega
    have hm0:0<=mag x/\mag x<=9223372036854775808:=by unfold mag;rw[if_pos hneg];omega
    rw[hm,hM 32 32 rfl (by decide),jl,jl,show(2 ^ 32:Int)=4294967296 from rfl,show mag x / 4294967296 % 4294967296=mag x / 4294967296 by omega]at hH2
    exact key b2 H2 hb2 hH2
  · rw[if_neg hneg]
    intro b2 H2 hb2 hH2
    have hm:IntKind.wrap .u64 x=mag x:=by rw[jU];unfold mag;rw[if_neg hneg];omega
    have hm0:0<=mag x/\mag x<=9223372036854775808:=by unfold mag;rw[if_neg hneg];omega
    rw[hm,hM 32 32 rfl (by decide),jl,jl,show(2 ^ 32:Int)=4294967296 from rfl,show mag x / 4294967296 % 4294967296=mag x / 4294967296 by omega]at hH2
    exact key b2 H2 hb2 hH2
theorem sO(v:Int):(decide (cmpZ v (-1152921504606846976)>=0) && decide (cmpZ v 1152921504606846976<0))=decide (-1152921504606846976<=v/\v<1152921504606846976):=by
  rw[Bool.eq_iff_iff]
  simp only[Bool.and_eq_true,decide_eq_true_eq]
  unfold cmpZ
  by_cases h1:v< -1152921504606846976
  · rw[if_pos h1];omega
  · rw[if_neg h1]
    by_cases h2:v<1152921504606846976
    · rw[if_pos h2];split<;>omega
    · rw[if_neg h2];split<;>split<;>omega
theorem tx:eU (decide ((-1152921504606846976:Int)<0)) (ofL (-1152921504606846976))=(true,[0,268435456],0):=by kernel_rfl
theorem tz:eU (decide ((1152921504606846976:Int)<0)) (ofL 1152921504606846976)=(false,[0,268435456],0):=by kernel_rfl
theorem sq{neg:Bool}{ls:List Int}(h:(fixR neg ls).2=true):top ls<=2/\fixX ls<=1152921504606846976/\(fixR neg ls).1=if neg=true then-fixX ls else fixX ls:=by
  unfold fixR at h⊢
  by_cases h1:2<top ls
  · rw[if_pos h1]at h;exact absurd h (by decide)
  rw[if_neg h1]at h⊢
  by_cases h2:fixX ls>1152921504606846976
  · rw[if_pos h2]at h;exact absurd h (by decide)
  rw[if_neg h2]at h⊢
  by_cases h3:fixX ls=1152921504606846976/\neg=false
  · rw[if_pos h3]at h;exact absurd h (by decide)
  rw[if_neg h3]
  refine⟨by omega,by omega,?_⟩
  by_cases h4:neg=true
  · rw[if_pos h4,if_pos h4]
  · rw[if_neg h4,if_neg h4]
set_option maxHeartbeats 1000000 in
theorem pH{H:zW}{q:RB}{r:RM}{b0:Blk}{x0:Hp}{ep:Int}{neg:Bool}{mB:zY}{mN mC:Nat}{ls:List Int}(h:RHAt H q r x0.sp ep)(ok:SpOK x0.sp)
    (hs:cY H mB (lvs ls)) (hn:mN=ls.length) (h60:mN<=60) (hlm: ∀x∈ls,fM x):
    cT.C (some ⟨q.h,0,none⟩) neg mB mN mC H (λv H'=>v=.tuple #[.int .u64 (bigR (some (b0,x0)) neg ls).1,.int .i64 (bigR (some (b0,x0)) neg ls).2]/\ks H H' q r (spo (bigO (some (b0,x0)) neg ls)) ep/\Fr (q.all r) H H'):=by
  refine HC.via λR hR=>cT.link ?_
  unfold cT.pt zq
  intro b H1 hb hH1
  have e1:Ext H H1:=Ext.push' hH1
  refine⟨_,_,_,_,bQ (aO hb hH1),?_⟩
  refine HC.mono (jq (hs.ext e1) hn (by omega)) ?_
  rintro _ H2 ⟨B,k,c,rfl,q1,q2,q3,q5,q4,e2⟩
  have iv:jr ls k:=⟨q1,q3,q5⟩
  have ht:=iv.top hlm
  have hng:=kK iv hlm neg
  have hn1: ∃n1,n1=(neg && decide (0<top ls)):=⟨_,rfl⟩
  obtain⟨n1,hn1⟩:=hn1
  rw[hng,<-hn1]
  refine⟨_,_,_,_,rfl,?_⟩
  intro b2 H3 hb2 hH3
  obtain⟨p1,p2⟩:=fE (vs:=[.bool n1,.slice B k c]) hb2 hH3 rfl rfl
  refine⟨p1,λH4 hH4=>?_⟩
  obtain⟨g4,e4⟩:=p2 H4 hH4
  refine⟨_,_,_,_,bQ g4,?_⟩
  have e14:=(e1.trans e2).trans e4
  refine HC.mono (lQ (q4.ext e4) iv.len.symm (by omega)) ?_
  rintro _ H5 ⟨neg',mB',mN',mC',ls',e,rfl,⟨hbig,he6⟩,hok,e5⟩
  refine⟨_,_,_,_,_,rfl,?_⟩
  intro b3 H6 hb3 hH6
  obtain⟨p3,p4⟩:=fE (vs:=[.bool neg',.slice mB' mN' mC']) hb3 hH6 rfl rfl
  refine⟨p3,λH7 hH7=>?_⟩
  obtain⟨g7,e7⟩:=p4 H7 hH7
  have e17:=(e14.trans e5).trans e7
  by_cases he:e=0
  case neg=>
    rw[if_neg he]
    have h48:48<top ls:=by
      have: ¬k<=1536:=λhh=>he (hbig.2 hh)
      omega
    refine hR _ _ ⟨?_,?_,e17.fr⟩
    · unfold bigR;rw[if_pos h48,he6 he]
    · unfold bigO;rw[if_pos h48];exact .same (h.ext e17)
  rw[if_pos he]
  obtain⟨h2,h3,h4,h5,h6⟩:=hok he
  have h48: ¬48<top ls:=by have:=hbig.1 he;omega
  have hl5:ls'=trim ls:=by rw[h5];exact iv.trim hlm
  subst hl5
  subst h2
  have hN1:(eU neg ls).1=neg':=by unfold eU;rw[if_neg h48];exact hn1.symm
  have hlt:=jS hlm
  have htl:=iA ls
  have htt:top (trim ls)=(trim ls).length:=by rw[rP,iA]
  have hbR:bigR (some (b0,x0)) neg ls=if(fixR neg' (trim ls)).2=true then(fixW (fixR neg' (trim ls)).1,0)else hZ (some (b0,x0)) 3 (if neg'=true then 1 else 0) (trim ls):=by
    unfold bigR;rw[if_neg h48,hN1]
  have hbO:bigO (some (b0,x0)) neg ls=if(fixR neg' (trim ls)).2=true then some (b0,x0)else ii (some (b0,x0)) 3 (if neg'=true then 1 else 0) (trim ls):=by
    unfold bigO;rw[if_neg h48,hN1]
  rw[hbR,hbO]at hR
  have bitsX:Bits ((bitsOf ls).take k):=iv.bits hlm
  have canX:Canon ((bitsOf ls).take k):=iv.canon hlm
  have zX:neg'=true->(bitsOf ls).take k≠[]:=λhh e0=>by
    rw[hn1]at hh
    simp only[Bool.and_eq_true,decide_eq_true_eq]at hh
    have:=iv.len
    rw[e0]at this
    simp at this
    omega
  have vX:valZ neg' ((bitsOf ls).take k)=if neg'=true then-dF (trim ls)else dF (trim ls):=by
    unfold valZ;rw[iv.val hlm,om]
  have lmB: ∀y∈([0,268435456]:List Int),fM y:=λy hy=>by
    simp at hy;unfold fM;rcases hy with rfl | rfl<;>omega
  have row7:=bQ ((e5.trans e7).get g4)
  refine⟨_,_,_,_,row7,?_⟩
  refine HC.mono (nw (x:= -1152921504606846976) ⟨by decide,by decide⟩) ?_
  rw[tx]
  rintro _ H8 ⟨B8,n8,c8,rfl,hn8,s8,_,e8⟩
  refine⟨_,_,_,_,rfl,e8.rowAt row7,?_⟩
  refine HC.mono (jq s8 hn8 (by rw[hn8];decide)) ?_
  rintro _ H9 ⟨B9,k9,c9,rfl,a1,a2,a3,a5,a4,e9⟩
  have iv9:jr [0,268435456] k9:=⟨a1,a3,a5⟩
  have t9:top [0,268435456]=2:=by rfl
  have tk9:=iv9.top lmB
  have e89:=e8.trans e9
  refine⟨_,_,_,_,rfl,e89.rowAt row7,?_⟩
  rw[kK iv9 lmB,t9,show(true && decide (0<2))=true from rfl]
  have l9:=iv9.len
  have lX:=iv.len
  refine HC.mono (sR (na:=neg') (nb:=true) (aC:=c) (xs:=(bitsOf ls).take k) (ys:=(bitsOf [0,268435456]).take k9) ((q4.ext ((e4.trans e5).trans e7)).ext e89) a4 lX.symm l9.symm ⟨by omega,by have:([0,268435456]:List Int).length=2:=rfl;omega⟩) ?_
  rintro _ H10 ⟨rfl,e10⟩
  have e810:=e89.trans e10
  refine⟨_,rfl,?_⟩
  have row10:=e810.rowAt row7
  refine⟨_,_,_,_,row10,?_⟩
  refine HC.mono (nw (x:=1152921504606846976) ⟨by decide,by decide⟩) ?_
  rw[tz]
  rintro _ H11 ⟨B11,n11,c11,rfl,hn11,s11,_,e11⟩
  refine⟨_,_,_,_,rfl,e11.rowAt row10,?_⟩
  refine HC.mono (jq s11 hn11 (by rw[hn11];decide)) ?_
  rintro _ H12 ⟨B12,k12,c12,rfl,d1,d2,d3,d5,d4,e12⟩
  have iv12:jr [0,268435456] k12:=⟨d1,d3,d5⟩
  have l12:=iv12.len
  have e1112:=e11.trans e12
  refine⟨_,_,_,_,rfl,e1112.rowAt row10,?_⟩
  rw[kK iv12 lmB,t9,show(false && decide (0<2))=false from rfl]
  refine HC.mono (sR (na:=neg') (nb:=false) (aC:=c) (xs:=(bitsOf ls).take k) (ys:=(bitsOf [0,268435456]).take k12) (((q4.ext ((e4.trans e5).trans e7)).ext e810).ext e1112) d4 lX.symm l12.symm ⟨by omega,by have:k12<=64:=d1;omega⟩) ?_
  rintro _ H13 ⟨rfl,e13⟩
  refine⟨_,rfl,?_⟩
  have e713:=(e810.trans e1112).trans e13
  have z9:(true=true)->(bitsOf [0,268435456]).take k9≠[]:=λ_ e0=>by
    rw[e0]at l9;simp at l9;omega
  have hc1:cmpV neg' ((bitsOf ls).take k) true ((bitsOf [0,268435456]).take k9)=cmpZ (if neg'=true then-dF (trim ls)else dF (trim ls)) (-1152921504606846976):=by
    rw[nS bitsX (iv9.bits lmB) canX (iv9.canon lmB) zX z9,vX,show valZ true ((bitsOf [0,268435456]).take k9)= -1152921504606846976 by unfold valZ;rw[if_pos rfl,iv9.val lmB];rfl]
  have hc2:cmpV neg' ((bitsOf ls).take k) false ((bitsOf [0,268435456]).take k12)=cmpZ (if neg'=true then-dF (trim ls)else dF (trim ls)) 1152921504606846976:=by
    rw[nS bitsX (iv12.bits lmB) canX (iv12.canon lmB) zX (λhh=>absurd hh (by decide)),vX,show valZ false ((bitsOf [0,268435456]).take k12)=1152921504606846976 by unfold valZ;rw[if_neg (by decide),iv12.val lmB];rfl]
  have hfv:=rV (neg:=neg') hlt htt (λhh=>by
    rw[hn1]at hh
    simp only[Bool.and_eq_true,decide_eq_true_eq]at hh
    omega)
  rw[hc1,hc2,sO,<-hfv.1]
  have g13:=e713.get g7
  have h413:=h4.ext (e7.trans e713)
  have e113:=e17.trans e713
  by_cases hfx:(fixR neg' (trim ls)).2=true
  · rw[if_pos hfx]
    rw[if_pos hfx,if_pos hfx]at hR
    obtain⟨f1,f2,f3⟩:=sq hfx
    have hin:=qH hlt hfx
    have hl0:=jW hlt 0
    have hl1:=jW hlt 1
    have hX:fixX (trim ls)=(trim ls).getD 0 0+4294967296*(trim ls).getD 1 0:=rfl
    generalize trim ls=ms at*
    refine⟨λx i A=>Ext H13 A/\(0<=i/\i<=(ms.length:Int))/\x=fixP ms i,λx i _=>((ms.length:Int)-i).toNat,⟨Ext.refl _,⟨by omega,by omega⟩,rfl⟩,?_⟩
    rintro _ i A ⟨eA,hi,rfl⟩
    have gA:=eA.get g13
    refine⟨_,_,_,by rw[aS gA];rfl,?_⟩
    by_cases hlti:i< (mN':Int)
    · rw[if_pos hlti]
      obtain⟨a,rfl,hr⟩:=jd (h413.ext eA) (by omega)
      have h32:IntKind.wrap .i64 (32*i)=32*i:=w64 (by omega)
      refine⟨_,_,_,by rw[aS gA];rfl,a,rfl,⟨hi.1,hlti⟩,ms.getD i.toNat 0,by rw[Nat.mul_one];exact rowD hr (by omega),by rw[h32];omega,⟨eA,⟨by rw[w64 (by omega)];omega,by rw[w64 (by omega)];omega⟩,?_⟩,by show((ms.length:Int)-IntKind.wrap .i64 (i+1)).toNat< ((ms.length:Int)-i).toNat;rw[w64 (by omega)];omega⟩
      rw[h32,w64 (n:=i+1) (by omega)]
      rcases(show i=0\/i=1 by omega)with rfl | rfl
      · rw[show(0:Int).toNat=0 from rfl,w64 (n:=ms.getD 0 0) (by have:=hl0.1;have:=hl0.2;omega),mH (32*0) 0 rfl (by decide)]
        show IntKind.wrap .i64 (0+IntKind.wrap .i64 (ms.getD 0 0*1))=ms.getD 0 0
        rw[Int.mul_one,w64 (n:=ms.getD 0 0) (by have:=hl0.1;have:=hl0.2;omega),w64 (by have:=hl0.1;have:=hl0.2;omega)];omega
      · have b0:=hl0.1
        have b1:=hl1.1
        have b2:=hl0.2
        have b3:=hl1.2
        rw[show(1:Int).toNat=1 from rfl,w64 (n:=ms.getD 1 0) (by omega),mH (32*1) 32 rfl (by decide)]
        show IntKind.wrap .i64 (ms.getD 0 0+IntKind.wrap .i64 (ms.getD 1 0*4294967296))=fixX ms
        rw[w64 (n:=ms.getD 1 0*4294967296) (by omega),w64 (by omega)];omega
    rw[if_neg hlti]
    have hi2:i=(top ms:Int):=by omega
    rw[hi2,pj f1]
    have fx0:0<=fixX ms:=by have:=hl0.1;have:=hl1.1;omega
    refine⟨_,by rw[aU gA];rfl,λx A'=>x=(fixR neg' ms).1/\Ext H13 A',?_,?_⟩
    · by_cases hng':neg'=true
      · rw[if_pos hng'];exact⟨by rw[f3,if_pos hng',w64 (by omega)];omega,eA⟩
      · rw[if_neg hng'];exact⟨by rw[f3,if_neg hng'],eA⟩
    rintro _ A' ⟨rfl,eA'⟩
    refine HC.mono (kj (kind:=1) (tag:=0) (a:=0) (more:=0) (by unfold kA;rw[if_pos rfl];exact hin)) ?_
    rintro _ H16 ⟨rfl,e16⟩
    exact⟨_,rfl,hR _ _ ⟨by unfold iR;rw[if_pos rfl];rfl,.same (h.ext ((e113.trans eA').trans e16)),((e113.trans eA').trans e16).fr⟩⟩
  rw[if_neg hfx]
  rw[if_neg hfx,if_neg hfx]at hR
  refine⟨λp m d i A=> ∃k:Nat,i=k/\k<=(trim ls).length/\Ext H13 A/\Own A 33 1 p m d (wvs ((trim ls).take k))/\m=k/\(∀j,j∈blks p->H13.size<=j),λ_ _ _ i _=>((trim ls).length-i).toNat,⟨0,rfl,by omega,Ext.refl _,by simpa using gH,rfl,by simp⟩,?_⟩
  rintro p m d i A ⟨kk,rfl,hkk,eA,how,hmk,hbk⟩
  obtain rfl:=hmk.symm
  have gA:=eA.get g13
  refine⟨_,_,_,by rw[aS gA];rfl,?_⟩
  by_cases hlti:(kk:Int)< (mN':Int)
  · rw[if_pos hlti]
    obtain⟨a,rfl,hrow⟩:=jd (h413.ext eA) (by omega)
    refine⟨_,_,_,by rw[aS gA];rfl,a,rfl,⟨by omega,hlti⟩,(trim ls).getD kk 0,by rw[show Int.toNat (kk:Int)*1=kk by omega];exact rowD hrow (by omega),?_⟩
    have hlb:=jW hlt kk
    intro b4 H18 hb4 hH18
    rw[wu64 (n:=(trim ls).getD kk 0) ⟨hlb.1,by have:=hlb.2;omega⟩]at hH18
    have e18:Ext A H18:=Ext.push' hH18
    refine cZ (ys:=wvs [(trim ls).getD kk 0]) (how.ext e18) (dH (aO hb4 hH18) _ 0 0 (λj hj=>by simp)) (by simp) (gM _) rfl (by omega) ?_
    intro p' c' H19 how19 f19 hnew
    refine⟨⟨kk+1,by rw[w64 (by omega)];omega,by omega,(eA.trans e18).fr_trans f19 hbk,?_,rfl,λj hj=>?_⟩,by show(((trim ls).length:Int)-IntKind.wrap .i64 ((kk:Int)+1)).toNat< (((trim ls).length:Int)-(kk:Int)).toNat;rw[w64 (by omega)];omega⟩
    · rw[List.take_succ_eq_append_getElem (by omega),<-getD_at (by omega) 0]
      simpa[wvs]using how19
    · rcases hnew j hj with hh | hh
      · exact hbk j hh
      · have:=(eA.trans e18).size;omega
  rw[if_neg hlti]
  have hkn:kk=(trim ls).length:=by omega
  rw[hkn,List.take_length]at how
  refine⟨_,by rw[aU gA];rfl,?_⟩
  have e1A:=e113.trans eA
  have hltq:=h.lt
  have key: ∀mo:Int,mo=(if neg'=true then 1 else 0)->aY.C (some ⟨q.h,0,none⟩) 3 mo p kk d A (λv_10 H20=> ∃ra:Int,∃rb_2:Int,v_10=.tuple #[.int .u64 ra,.int .i64 rb_2]/\R (.tuple #[.int .u64 ra,.int .i64 rb_2]) H20):=by
    intro mo hmo
    have hmw:aM mo:=by rw[hmo];split<;>exact⟨by decide,by decide⟩
    refine HC.mono (jA (b:=b0) (h.ext e1A) ok how.src hkn (nd hlt) hmw (by omega)) ?_
    rintro _ H20 ⟨rfl,⟨r',hs',hbm,hbs⟩,f20⟩
    refine⟨_,_,rfl,hR _ _ ⟨by rw[hmo],⟨r',by rw[<-hmo];exact hs',hbm,λj hj=>(hbs j hj).imp id (λhh=>by have:=e1A.size;omega)⟩,e1A.fr.trans f20⟩⟩
  by_cases hsg:neg'=true
  · rw[if_pos hsg];exact key 1 (by rw[if_pos hsg])
  · rw[if_neg hsg];exact key 0 (by rw[if_neg hsg])
set_option maxHeartbeats 1000000 in
theorem pI{H:zW}{q:RB}{r:RM}{s:Sp}{ep w:Int}(h:RHAt H q r s ep)(ok:cF s.mem)(hw:aM w):
    cW.C (some ⟨q.h,0,none⟩) w H (λv H'=> ∃B n c,v=.tuple #[.agg #[.bool (numW s.mem w).1,.slice B n c],.int .i64 (numW s.mem w).2.2]/\n=(numW s.mem w).2.1.length/\cY H' B (lvs (numW s.mem w).2.1)/\Ext H H'):=by
  refine HC.via λR hR=>cW.link ?_
  unfold cW.pt zq
  intro b H1 hb hH1
  have e1:Ext H H1:=Ext.push' hH1
  have hg:=aO hb hH1
  have hbs:=bI hg
  refine HC.mono (jP hw) ?_
  rintro _ H2 ⟨k,t,a,x,m,rfl,hof,e2⟩
  refine⟨_,_,_,_,_,rfl,?_⟩
  intro b2 H3 hb2 hH3
  obtain⟨p1,p2⟩:=fE (vs:=[.int .i64 k,.int .i64 t,.int .i64 a,.int .i64 x,.int .u64 m]) hb2 hH3 rfl rfl
  refine⟨p1,λH4 hH4=>?_⟩
  obtain⟨g4,e4⟩:=p2 H4 hH4
  have e14:=(e1.trans e2).trans e4
  have hg4:=(e2.trans e4).get hg
  refine⟨k,by rw[aU g4];rfl,?_⟩
  by_cases hk1:k=1
  · rw[if_pos hk1]
    have hf:w % 8=0/\x=signed w / 8:=by
      unfold OfIs at hof
      rcases hof with h | h | h | h | h | h
      · exact⟨h.1,h.2.2.2.2.1⟩
      all_goals omega
    obtain⟨hf,rfl⟩:=hf
    have hsg:I64 (signed w / 8):=by have:=hw.1;have:=hw.2;unfold signed;split<;>exact⟨by omega,by omega⟩
    refine⟨_,by rw[aS g4];rfl,?_⟩
    refine HC.mono (nw hsg) ?_
    rintro _ H5 ⟨B,n,c,rfl,hn,hs5,hB,e5⟩
    refine⟨_,_,_,_,rfl,?_⟩
    obtain⟨p3,p4⟩:=iH (vs:=[.bool (eU (decide (signed w / 8<0)) (ofL (signed w / 8))).1,.slice B n c]) (e5.get hg4) rfl rfl
    refine⟨p3,λH6 hH6=>?_⟩
    obtain⟨g6,f6⟩:=p4 H6 hH6
    have hnw:numW s.mem w=((eU (decide (signed w / 8<0)) (ofL (signed w / 8))).1,(eU (decide (signed w / 8<0)) (ofL (signed w / 8))).2.1,0):=by unfold numW;rw[if_pos hf]
    rw[hnw]at hR
    have z4:=(e2.trans e4).size
    refine⟨_,_,_,_,bQ g6,hR _ _ ⟨B,n,c,rfl,hn,nu hs5 f6 (λi hi=>by have:=hB i hi;simp;omega),(e14.trans e5).fr_trans f6 (λi hi=>by simp at hi;omega)⟩⟩
  rw[if_neg hk1]
  have hf: ¬w % 8=0:=by
    intro h0
    unfold OfIs at hof
    rcases hof with h | h | h | h | h | h
    · exact hk1 h.2.1
    all_goals first | omega | skip
    · have:mayW w=true:=by unfold mayW;simp[h0]
      rw[this]at h;exact absurd h.1 (by decide)
  have fin: ∀{A:zW},Ext H1 A->numW s.mem w=(false,[],3)->(aJ A (Addr.mk b 0 none) 0 2)/\ ∀H18:zW,H18=aP A (Addr.mk b 0 none) [.bool false,.slice none 0 0] 0->
      ∃rNeg_5:Bool,∃rMagB_5:zY,∃rMagN_5:Nat,∃rMagC_5:Nat,aG H18 (Addr.mk b 0 none) 0 [.bool rNeg_5,.slice rMagB_5 rMagN_5 rMagC_5]/\R (.tuple #[.agg #[.bool rNeg_5,.slice rMagB_5 rMagN_5 rMagC_5],.int .i64 3]) H18:=by
    intro A eA hno
    obtain⟨hcp,hpu⟩:=iH (vs:=[.bool false,.slice none 0 0]) (eA.get hg) rfl rfl
    refine⟨hcp,λH6 hH6=>?_⟩
    obtain⟨g6,f6⟩:=hpu H6 hH6
    refine⟨_,_,_,_,bQ g6,hR _ _ ⟨none,0,0,by rw[hno],by rw[hno];rfl,by rw[hno];rfl,(e1.trans eA).fr_trans f6 (λi hi=>by simp at hi;omega)⟩⟩
  have e24:=e2.trans e4
  refine HC.mono (iz (h.ext e14) ok hw) ?_
  rintro _ H7 ⟨⟨a7,k7,t7,l7,x7,m7,rfl,ho⟩,e7⟩
  refine⟨_,_,_,_,_,_,rfl,?_⟩
  intro b3 H8 hb3 hH8
  obtain⟨p3,p4⟩:=fE (vs:=[.int .i64 k7,.int .i64 t7,.int .i64 l7,.int .i64 x7,.int .u64 m7]) hb3 hH8 rfl rfl
  refine⟨p3,λH9 hH9=>?_⟩
  obtain⟨g9,e9⟩:=p4 H9 hH9
  have e29:=(e24.trans e7).trans e9
  have hw0:=hw.1
  rcases ho with⟨hO,rfl,rfl,rfl,rfl⟩ | ⟨hO,rfl,rfl,rfl,rfl⟩
  case inr=>
    rw[if_pos (by decide)]
    exact fin e29 (by unfold numW;rw[if_neg hf,if_neg (λq=>hO q.1)])
  have hty:s.mem.typ w=hk (s.mem.get (w / 8)):=by unfold Mem.typ;rw[if_pos hO]
  have hle:s.mem.len w=hn (s.mem.get (w / 8)):=by unfold Mem.len;rw[if_pos hO]
  have hmo:s.mem.more w=hm (s.mem.get (w / 8)):=by unfold Mem.more;rw[if_pos hO]
  have hlr:=hO.len_lt
  have hw8:w / 8<65536:=hO.1.1.2
  rw[if_neg (by omega)]
  refine⟨_,by rw[aS g9];rfl,?_⟩
  by_cases ht:hk (s.mem.get (w / 8))=3
  case neg=>
    rw[if_neg ht]
    exact fin e29 (by unfold numW;rw[if_neg hf,if_neg (λq=>ht (by rw[<-hty];exact q.2))])
  rw[if_pos ht]
  have hnum:numW s.mem w=(if mayR (s.mem.more w==1) ((s.mem.objWords w).map (· % 4294967296))=true/\ ¬s.mem.more w>1 then(s.mem.more w==1,(s.mem.objWords w).map (· % 4294967296),0)else(false,[],3)):=by
    unfold numW;rw[if_neg hf,if_pos ⟨hO,by rw[hty];exact ht⟩]
  refine⟨_,by rw[aS g9];rfl,?_⟩
  rw[<-hmo]
  by_cases hgt:s.mem.more w>1
  · rw[if_pos hgt]
    exact fin e29 (by rw[hnum,if_neg (λh=>h.2 hgt)])
  rw[if_neg hgt]
  refine⟨_,by rw[aS g9];rfl,?_⟩
  rw[<-hmo]
  intro b4 H12 hb4 hH12
  obtain⟨p5,p6⟩:=fE (vs:=[.bool (s.mem.more w==1),.slice none 0 0]) hb4 hH12 rfl rfl
  refine⟨p5,λH13 hH13=>?_⟩
  obtain⟨g13,e13⟩:=p6 H13 hH13
  have g9':=e13.get g9
  have hwl:=Mem.objWords_len s.mem w
  have hb3s:=bI g9
  have hb4s:=bI g13
  have e1b3:H1.size<=b3:=by have:=(e24.trans e7).size;omega
  have hne34:b3≠b4:=by omega
  generalize hwsd:s.mem.objWords w=ws at*
  have hlen:hn (s.mem.get (w / 8))=(ws.length:Int):=by
    have:0<=s.mem.len w:=by rw[hle];exact by unfold hn;omega
    omega
  have hel: ∀(i:Nat) (hi:i<ws.length),ws[i]=s.mem.get (w / 8+1+(i:Int)):=λi hi=>by
    subst hwsd;exact Mem.objWords_get _ _ hi
  refine⟨λi A=> ∃(k:Nat) (p:zY) (d:Nat),i=k/\k<=ws.length/\A[b4]?=some (.cells #[.bool (s.mem.more w==1),.slice p k d] 39 (0,0))/\Own A 154 1 p k d (lvs ((ws.map (· % 4294967296)).take k))/\(∀j,j∈blks p->H13.size<=j)/\Fr [b4] H13 A,λi _=>(ws.length-i).toNat,⟨0,none,0,rfl,by omega,g13,by simpa using gH,by simp,Fr.refl _ _⟩,?_⟩
  rintro i A ⟨k,p,d,rfl,hk,gA,howA,hbkA,fA⟩
  have g9A:=fA.get (by simp;exact hne34) g9'
  have e1A:Ext H1 A:=(e29.trans e13).fr_trans fA (λi hi=>by simp at hi;have:=e29.size;omega)
  refine⟨_,by rw[aS g9A];rfl,?_⟩
  rw[hlen]
  by_cases hlti:(k:Int)< (ws.length:Int)
  · rw[if_pos hlti]
    have hkl:k<ws.length:=by omega
    have hA:=h.ext (e1.trans e1A)
    refine⟨_,rfl,_,hA.hPtr,_,rfl,_,hA.cd.cPtr,_,rfl,_,hA.cd.sp.mPtr,?_⟩
    rw[w64 (n:=w / 8+1) (by omega),w64 (n:=w / 8+1+(k:Int)) (by omega)]
    refine HC.mono (jz hA.cd.sp.mem ok ⟨by omega,by omega⟩) ?_
    rintro _ A5 ⟨rfl,hA5⟩
    obtain rfl:A=A5:=hA5.symm
    have hu:s.mem.used (w / 8+1+(k:Int)):=hO.used hw (ok.seg _).n.2 ⟨by omega,by omega⟩
    rw[if_pos hu,if_pos hu,<-hel k hkl]
    have hgw:0<=ws[k]:=by rw[hel k hkl];exact((ok.seg _).words _).1
    refine⟨_,_,rfl,_,_,_,by rw[aS gA];rfl,?_⟩
    intro b5 H16 hb5 hH16
    rw[show IntKind.wrap .u32 (Int.tmod ws[k] 4294967296)=ws[k] % 4294967296 by rw[Int.tmod_eq_emod_of_nonneg hgw,jl];omega]at hH16
    have e16:Ext A H16:=Ext.push' hH16
    refine cZ (ys:=lvs [ws[k] % 4294967296]) (howA.ext e16) (dH (aO hb5 hH16) _ 0 0 (λj hj=>by simp)) (by simp) (jQ _) rfl (by omega) ?_
    intro p' c' H17 how17 f17 hnew
    have g17:=f17.get (λhi=>by have:=hbkA _ hi;omega) (e16.get gA)
    obtain⟨hcp,hpu⟩:=mr g17 1 (.slice p' (k+1) c') (by show 1<2;omega)
    refine⟨hcp,λH18 hH18=>?_⟩
    obtain⟨g18,f18⟩:=hpu H18 hH18
    have hszA:=fA.size
    have hsz16:=e16.size
    have hnew': ∀j,j∈blks p'->H13.size<=j:=λj hj=>by
      rcases hnew j hj with h | h
      · exact hbkA j h
      · omega
    refine⟨⟨k+1,p',c',by rw[w64 (by omega)];omega,by omega,g18,?_,hnew',?_⟩,by show((ws.length:Int)-IntKind.wrap .i64 ((k:Int)+1)).toNat< ((ws.length:Int)-(k:Int)).toNat;rw[w64 (by omega)];omega⟩
    · have h12:=how17.keep f18 (λj hj=>by have:=hnew' j hj;simp;omega)
      rw[List.take_succ_eq_append_getElem (by simp;omega)]
      simpa[lvs]using h12
    · exact((fA.trans' e16.fr (S'':=[b4]) (λi h _=>h) (λi h _=>h)).trans' f17 (S'':=[b4]) (λi h _=>h) (λi h hs=>absurd (hbkA i h) (by omega))).trans f18
  rw[if_neg hlti]
  have hkn:k=ws.length:=by omega
  rw[List.take_of_length_le (by simp;omega)]at howA
  refine⟨_,_,_,_,bQ gA,?_⟩
  have hlmW: ∀y∈ws.map (· % 4294967296),fM y:=λy hy=>by
    obtain⟨z,_,rfl⟩:=List.mem_map.1 hy
    exact⟨by omega,by omega⟩
  refine HC.mono (rg howA.src (by simp;omega) (by omega) hlmW) ?_
  rintro _ H19 ⟨⟨qq,rfl,hqq⟩,e19⟩
  refine⟨_,rfl,?_⟩
  by_cases hmay:qq=true
  case neg=>
    rw[if_neg hmay]
    exact fin (e1A.trans e19) (by rw[hnum,if_neg (λh=>hmay (hqq.2 h.1))])
  rw[if_pos hmay]
  rw[if_pos ⟨hqq.1 hmay,hgt⟩]at hnum
  rw[hnum]at hR
  refine⟨_,_,_,_,bQ (e19.get gA),?_⟩
  obtain⟨hcp,hpu⟩:=iH (vs:=[.bool (s.mem.more w==1),.slice p k d]) ((e1A.trans e19).get hg) rfl rfl
  refine⟨hcp,λH20 hH20=>?_⟩
  obtain⟨g20,f20⟩:=hpu H20 hH20
  have z13:=(e29.trans e13).size
  refine⟨_,_,_,_,bQ g20,hR _ _ ⟨p,k,d,rfl,by simp;omega,nu (howA.src.ext e19) f20 (λi hi=>by have:=hbkA i hi;simp;omega),((e1.trans e1A).trans e19).fr_trans f20 (λi hi=>by simp at hi;omega)⟩⟩

theorem sr{H:zW}:bH.C none 0 0 H (λv H'=>v=.slice none 0 0/\H'=H):=by
 refine HC.via λR hR=>bH.link ?_
 unfold bH.pt
 rw[onPtr_none]
 exact hR _ _ ⟨rfl,rfl⟩
theorem rp{H:zW}:aX.C none 0 0 H (λv H'=>v=.slice none 0 0/\H'=H):=by
 refine HC.via λR hR=>aX.link ?_
 unfold aX.pt
 rw[onPtr_none]
 exact hR _ _ ⟨rfl,rfl⟩
theorem ox{H:zW}{b:Blk}{x:Hp}(h:HpAt H b x)(ok:SpOK x.sp)(hsy:x.sy=.slice none 0 0)(hen:x.en=.slice none 0 0):
  gt.C (some ⟨b.h,0,none⟩) H (λv H'=> ∃b':Blk,v=.pointer (some ⟨b'.h,0,none⟩)/\HpAt H' b' x/\(∀j∈b'.all,H.size<=j)/\Ext H H'):=by
 refine HC.via λR hR=>gt.link ?_
 unfold gt.pt
 rw[onPtr_some]
 have g:=h.h
 rw[hsy,hen]at g
 have row1: ∀{A:zW} {a:Addr} {v:Value},hat A a=some v->aG A a 0 [v]:=λh=>⟨by rw[js];exact h,trivial⟩
 have at1: ∀{A:zW},Ext H A->hat A ((Addr.mk b.h 0 none).add 1)=some (.slice none 0 0):=λe=>by rw[aS (e.get g)];rfl
 have at2: ∀{A:zW},Ext H A->hat A ((Addr.mk b.h 0 none).add 2)=some (.slice none 0 0):=λe=>by rw[aS (e.get g)];rfl
 have at3: ∀{A:zW},Ext H A->hat A ((Addr.mk b.h 0 none).add 3)=some (.int .u64 x.ep):=λe=>by rw[aS (e.get g)];rfl
 refine⟨_,h.hPtr,_,_,_,at1 (Ext.refl _),_,_,_,at2 (Ext.refl _),_,at3 (Ext.refl _),HC.mono (se h.cd ok) ?_⟩
 rintro _ H1 ⟨b',rfl,C,hb',e1⟩
 refine⟨_,rfl,row1 (at1 e1),row1 (at2 e1),row1 (at3 e1),HC.mono sr ?_⟩
 rintro _ H2 ⟨rfl,h2⟩
 obtain rfl:H1=H2:=h2.symm
 refine⟨_,_,_,rfl,row1 (at2 e1),row1 (at3 e1),HC.mono rp ?_⟩
 rintro _ H3 ⟨rfl,h3⟩
 obtain rfl:H1=H3:=h3.symm
 refine⟨_,_,_,rfl,row1 (at3 e1),λbh H4 hb hH4=>?_⟩
 have e4:Ext H1 H4:=Ext.push' hH4
 have hs1:=e1.size
 have q1:=hb' b'.c (by simp)
 have q2:=hb' b'.sp (by simp)
 have q3:=hb' b'.m (by simp)
 have q4:=hb' b'.s (by simp)
 refine hR _ _ ⟨⟨bh,b'.c,b'.sp,b'.m,b'.s⟩,rfl,⟨⟨⟨C.sp.mem.ext e4,C.sp.ne,(C.sp.ext e4).sp⟩,C.ne,e4.get C.c⟩,⟨by show bh≠b'.c;omega,by show bh≠b'.sp;omega,by show bh≠b'.m;omega,by show bh≠b'.s;omega⟩,by rw[hsy,hen];exact aO hb hH4⟩,λj hj=>?_,e1.trans e4⟩
 simp only[Blk.all,List.mem_cons,List.not_mem_nil,or_false]at hj
 rcases hj with rfl | rfl | rfl | rfl | rfl<;>omega

theorem ss(m:Mem)(w:Int):(numW m w).2.1.length<=1000:=by
 have h1:(m.objWords w).length<=255:=by
  rw[Mem.objWords_len]
  unfold Mem.len
  split
  ·unfold hn;omega
  ·decide
 have h2: ∀x:Int,(trim (ofL x)).length<=2:=λx=>by rw[iA];exact j1 _
 unfold numW
 split
 ·unfold eU
  split
  ·simp
  ·have:=h2 (signed w / 8);show(trim (ofL (signed w / 8))).length<=1000;omega
 ·split
  ·split
   ·show((m.objWords w).map _).length<=1000;rw[List.length_map];omega
   ·simp
  ·simp
set_option maxRecDepth 100000 in
set_option maxHeartbeats 1000000 in
theorem nW{H:zW}{q:RB}{r:RM}{b:Blk}{x:Hp}{ep w kind i:Int}(V:View H (some ⟨b.h,0,none⟩) (some (b,x)))(h:RHAt H q r x.sp ep)(hw:aM w)(hi:I64 i):
  dG.C (some ⟨b.h,0,none⟩) (some ⟨q.h,0,none⟩) w kind i H (λv H'=>v=.bool true/\Ext H H'):=by
 refine HC.via λR hR=>dG.link ?_
 unfold dG.pt
 obtain⟨_,_,ok⟩:=V.inv
 have okm:=ok.mem
 have eM:mof (some (b,x))=x.sp.mem:=rfl
 have hw0:=hw.1
 refine HC.mono (nN V hw) ?_
 rw[eM]
 rintro _ H1 ⟨rfl,e1⟩
 refine⟨_,_,rfl,HC.mono (ly (h.ext e1) okm hw ⟨by decide,by decide⟩) ?_⟩
 rintro _ H2 ⟨rfl,e2⟩
 have e02:=e1.trans e2
 refine⟨_,_,rfl,HC.mono (nO (V.ext e02) hw) ?_⟩
 rw[eM]
 rintro _ H3 ⟨rfl,e3⟩
 have e03:=e02.trans e3
 refine⟨_,_,rfl,HC.mono (ly (h.ext e03) okm hw ⟨by decide,by decide⟩) ?_⟩
 rintro _ H4 ⟨rfl,e4⟩
 have e04:=e03.trans e4
 refine⟨_,_,rfl,HC.mono (iz (h.ext e04) okm hw) ?_⟩
 rintro _ H5 ⟨⟨a5,k5,t5,l5,x5,m5,rfl,ho⟩,e5⟩
 have e05:=e04.trans e5
 refine⟨_,_,_,_,_,_,rfl,?_⟩
 intro b1 H6 hb1 hH6
 obtain⟨p1,p2⟩:=fE (vs:=[.int .i64 k5,.int .i64 t5,.int .i64 l5,.int .i64 x5,.int .u64 m5]) hb1 hH6 rfl rfl
 refine⟨p1,λH7 hH7=>?_⟩
 obtain⟨g7,e7⟩:=p2 H7 hH7
 have e07:=e05.trans e7
 rw[if_pos rfl,if_pos rfl,if_pos rfl,if_pos rfl]
 refine HC.mono (mT (V.ext e07) hw) ?_
 rw[eM]
 rintro _ H8 ⟨rfl,e8⟩
 have e08:=e07.trans e8
 refine⟨_,rfl,HC.mono (jB (h.ext e08) okm hw) ?_⟩
 rintro _ H9 ⟨rfl,e9⟩
 have e09:=e08.trans e9
 refine⟨_,rfl,?_⟩
 have hpair:decide (x.sp.mem.isPair w)=decide ((if x.sp.mem.isPair w then w / 8 else-1)>=0):=by
  refine decide_eq_decide.2 ?_
  by_cases hp:x.sp.mem.isPair w
  ·rw[if_pos hp];exact⟨λ_=>by omega,λ_=>hp⟩
  ·rw[if_neg hp];exact⟨λhh=>absurd hh hp,λhh=>absurd hh (by decide)⟩
 rw[if_pos hpair]
 refine HC.mono (qd (V.ext e09) hw) ?_
 rw[eM]
 rintro _ H10 ⟨rfl,e10⟩
 have e010:=e09.trans e10
 refine⟨_,rfl,HC.mono (oo (h.ext e010) okm hw) ?_⟩
 rintro _ H11 ⟨rfl,e11⟩
 have e011:=e010.trans e11
 refine⟨_,rfl,?_⟩
 rw[if_pos rfl]
 have e711:=((e8.trans e9).trans e10).trans e11
 have g11:=e711.get g7
 have r1: ∀{A:zW},Ext H11 A->aG A ((Addr.mk b1 0 none).add 1) 0 [.int .i64 t5]:=λe=>(bQ (e.get g11)).sub (us:=[.int .i64 t5]) 1 rfl
 have r2: ∀{A:zW},Ext H11 A->aG A ((Addr.mk b1 0 none).add 2) 0 [.int .i64 l5]:=λe=>(bQ (e.get g11)).sub (us:=[.int .i64 l5]) 2 rfl
 have r4: ∀{A:zW},Ext H11 A->aG A ((Addr.mk b1 0 none).add 4) 0 [.int .u64 m5]:=λe=>(bQ (e.get g11)).sub (us:=[.int .u64 m5]) 4 rfl
 refine⟨λbv A=>bv=false/\Ext H11 A,?_,?_⟩
 ·rcases ho with⟨hO,rfl,rfl,rfl,rfl⟩ | ⟨hO,rfl,rfl,rfl,rfl⟩
  ·rw[if_neg (by omega),if_pos (by omega)]
   refine⟨_,by rw[aS g11];rfl,_,by rw[aS g11];rfl,_,by rw[aS g11];rfl,?_⟩
   have hty:x.sp.mem.typ w=hk (x.sp.mem.get (w / 8)):=by unfold Mem.typ;rw[if_pos hO]
   have hle:x.sp.mem.len w=hn (x.sp.mem.get (w / 8)):=by unfold Mem.len;rw[if_pos hO]
   have hmo:x.sp.mem.more w=hm (x.sp.mem.get (w / 8)):=by unfold Mem.more;rw[if_pos hO]
   refine HC.mono (kY (V.ext e011) hw) ?_
   rw[eM,hty]
   rintro _ H30 ⟨rfl,f1⟩
   refine⟨_,rfl,r1 f1,r2 f1,r4 f1,?_⟩
   rw[if_pos rfl]
   refine HC.mono (lH (V.ext (e011.trans f1)) hw) ?_
   rw[eM,hle]
   rintro _ H31 ⟨rfl,f2⟩
   have f12:=f1.trans f2
   refine⟨_,rfl,r1 f12,r2 f12,r4 f12,?_⟩
   rw[if_pos rfl]
   refine HC.mono (kf (V.ext (e011.trans f12)) hw) ?_
   rw[eM,hmo]
   rintro _ H32 ⟨rfl,f3⟩
   have f13:=f12.trans f3
   exact⟨_,rfl,r1 f13,r2 f13,r4 f13,by simp,f13⟩
  ·rw[if_pos (by decide)]
   refine⟨_,by rw[aS g11];rfl,_,by rw[aS g11];rfl,_,by rw[aS g11];rfl,?_⟩
   have hty:x.sp.mem.typ w=0:=by unfold Mem.typ;rw[if_neg hO]
   have hle:x.sp.mem.len w=0:=by unfold Mem.len;rw[if_neg hO]
   have hmo:x.sp.mem.more w=0:=by unfold Mem.more;rw[if_neg hO]
   refine HC.mono (kY (V.ext e011) hw) ?_
   rw[eM,hty]
   rintro _ H30 ⟨rfl,f1⟩
   refine⟨_,rfl,r1 f1,r2 f1,r4 f1,?_⟩
   rw[if_pos rfl]
   refine HC.mono (lH (V.ext (e011.trans f1)) hw) ?_
   rw[eM,hle]
   rintro _ H31 ⟨rfl,f2⟩
   have f12:=f1.trans f2
   refine⟨_,rfl,r1 f12,r2 f12,r4 f12,?_⟩
   rw[if_pos rfl]
   refine HC.mono (kf (V.ext (e011.trans f12)) hw) ?_
   rw[eM,hmo]
   rintro _ H32 ⟨rfl,f3⟩
   have f13:=f12.trans f3
   refine⟨_,rfl,r1 f13,r2 f13,r4 f13,?_⟩
   rw[if_pos rfl,if_neg (by decide)]
   exact⟨rfl,f13⟩
 rintro _ H12 ⟨rfl,e12⟩
 have e012:=e011.trans e12
 rw[if_neg (by decide)]
 refine HC.mono (lI (V.ext e012) hw hi) ?_
 rw[eM]
 rintro _ H13 ⟨rfl,e13⟩
 have e013:=e012.trans e13
 refine⟨_,_,rfl,HC.mono (pe (h.ext e013) okm hw hi) ?_⟩
 rintro _ H14 ⟨rfl,e14⟩
 have e014:=e013.trans e14
 refine⟨_,_,rfl,?_⟩
 obtain⟨tt,te,htv⟩: ∃(t:ByteArray) (e:Int),(if x.sp.mem.isObj w/\x.sp.mem.typ w=2 then Value.tuple #[.string (jF (x.sp.mem.objWords w)),.int .i64 0]else .tuple #[.string ⟨#[]⟩,.int .i64 3])=.tuple #[.string t,.int .i64 e]:=by
  split
  ·exact⟨_,_,rfl⟩
  ·exact⟨_,_,rfl⟩
 refine HC.mono (mX (V.ext e014) hw) ?_
 rw[eM,htv]
 rintro _ H15 ⟨rfl,e15⟩
 have e015:=e014.trans e15
 refine⟨_,_,rfl,HC.mono (oq (h.ext e015) okm hw) ?_⟩
 rw[htv]
 rintro _ H16 ⟨rfl,e16⟩
 have e016:=e015.trans e16
 refine⟨_,_,rfl,HC.mono (qY (V.ext e016) hw) ?_⟩
 rw[eM]
 rintro _ H17 ⟨B17,n17,c17,rfl,nr,e17⟩
 have e017:=e016.trans e17
 refine⟨_,_,_,_,_,rfl,?_⟩
 intro b2 H18 hb2 hH18
 obtain⟨p3,p4⟩:=fE (vs:=[.bool (numW x.sp.mem w).1,.slice B17 n17 c17]) hb2 hH18 rfl rfl
 refine⟨p3,λH19 hH19=>?_⟩
 obtain⟨g19,e19⟩:=p4 H19 hH19
 have e019:=e017.trans e19
 refine HC.mono (pI (h.ext e019) okm hw) ?_
 rintro _ H20 ⟨B20,n20,c20,rfl,hn20,s20,e20⟩
 have e020:=e019.trans e20
 refine⟨_,_,_,_,_,rfl,?_⟩
 intro b3 H21 hb3 hH21
 obtain⟨p5,p6⟩:=fE (vs:=[.bool (numW x.sp.mem w).1,.slice B20 n20 c20]) hb3 hH21 rfl rfl
 refine⟨p5,λH22 hH22=>?_⟩
 obtain⟨g22,e22⟩:=p6 H22 hH22
 have e022:=e020.trans e22
 rw[if_pos rfl,if_pos rfl,if_pos rfl,if_pos rfl]
 refine⟨_,_,_,_,bQ ((e20.trans e22).get g19),_,_,_,_,bQ g22,?_⟩
 have hnl:=ss x.sp.mem w
 have hln:=nr.len
 refine HC.mono (m6 (nr.own.src.ext ((e19.trans e20).trans e22)) nr.len (s20.ext e22) hn20 (by omega)) ?_
 rintro _ H23 ⟨rfl,e23⟩
 refine⟨_,rfl,hR _ _ ⟨?_,e022.trans e23⟩⟩
 simp
