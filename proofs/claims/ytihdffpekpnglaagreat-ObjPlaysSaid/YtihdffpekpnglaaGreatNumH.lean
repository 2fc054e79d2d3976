/-
  Numbers: trim, made, Norm, Fix, Of, May, Same; a heap's Int and Num. Proves nothing of any one statement.
-/
import Derived.Test.YtihdffpekpnglaaGreatText
import Derived.Test.YtihdffpekpnglaaGreatFnum
import Derived.Test.YtihdffpekpnglaaGreatFref02
set_option linter.unusedVariables false
set_option linter.unusedSimpArgs false
namespace Go.Proofs.YtihdffpekpnglaaGreat
open Go

abbrev lvs(ls:List Int):List Value:=ls.map (Value.int .u32)
theorem jQ: ∀ls:List Int,gF (lvs ls)=true
  | []=>rfl
  | w::ws=>by show(true && gF (lvs ws))=true;rw[jQ ws];rfl
abbrev fM(x:Int):Prop:=0<=x/\x<4294967296
def topN(ls:List Int):Nat->Nat
  | 0=>0
  | k+1=>if ls.getD k 0=0 then topN ls k else k+1
theorem qG(ls:List Int): ∀k,topN ls k<=k
  | 0=>Nat.le_refl _
  | k+1=>by unfold topN;split<;>have:=qG ls k<;>omega
theorem nQ(ls:List Int): ∀k i,topN ls k<=i->i<k->ls.getD i 0=0
  | 0,i,_,h=>by omega
  | k+1,i,h,hi=>by
    unfold topN at h
    by_cases hz:ls.getD k 0=0
    · rw[if_pos hz]at h
      by_cases hik:i=k
      · rw[hik];exact hz
      · exact nQ ls k i h (by omega)
    · rw[if_neg hz]at h;omega
theorem jG(ls:List Int): ∀k,topN ls k≠0->ls.getD (topN ls k-1) 0≠0
  | 0,h=>absurd rfl h
  | k+1,h=>by
    unfold topN at h⊢
    by_cases hz:ls.getD k 0=0
    · rw[if_pos hz]at h⊢;exact jG ls k h
    · rw[if_neg hz]at h⊢;exact hz
abbrev top(ls:List Int):Nat:=topN ls ls.length
theorem j1(ls:List Int):top ls<=ls.length:=qG _ _
def trim(ls:List Int):List Int:=ls.take (top ls)
theorem iA(ls:List Int):(trim ls).length=top ls:=by unfold trim;rw[List.length_take];have:=j1 ls;omega
theorem jR(ls:List Int)(i:Nat)(h:top ls<=i):ls.getD i 0=0:=by
  by_cases hi:i<ls.length
  · exact nQ ls _ i h hi
  · rw[List.getD,List.getElem?_eq_none (by omega)];rfl
theorem lM(ls:List Int)(i:Nat):(trim ls).getD i 0=ls.getD i 0:=by
  by_cases hi:i<top ls
  · rw[List.getD,List.getD,trim,List.getElem?_take,if_pos hi]
  · rw[jR ls i (by omega),List.getD,List.getElem?_eq_none (by rw[iA];omega)];rfl
theorem m0{ls ms:List Int}(h: ∀i,ls.getD i 0=ms.getD i 0): ∀k,topN ls k=topN ms k
  | 0=>rfl
  | k+1=>by unfold topN;rw[h k,m0 h k]
theorem lO(ls:List Int)(h: ∀i,ls.length<=i->ls.getD i 0=0): ∀d,topN ls (ls.length+d)=topN ls ls.length
  | 0=>rfl
  | d+1=>by
    show(if ls.getD (ls.length+d) 0=0 then topN ls (ls.length+d)else _)=_
    rw[if_pos (h _ (by omega)),lO ls h d]
theorem lP(ls:List Int)(i:Nat)(h:ls.length<=i):ls.getD i 0=0:=by rw[List.getD,List.getElem?_eq_none h];rfl
theorem qg{ls ms:List Int}(h: ∀i,ls.getD i 0=ms.getD i 0):trim ls=trim ms:=by
  have ht:top ls=top ms:=by
    have h1:=lO ls (lP ls) ms.length
    have h2:=lO ms (lP ms) ls.length
    show topN ls ls.length=topN ms ms.length
    rw[<-h1,<-h2,Nat.add_comm ms.length,m0 h]
  refine List.ext_getElem (by rw[iA,iA,ht]) λi h1 h2=>?_
  have:=h i
  rw[<-lM ls,<-lM ms,getD_at h1,getD_at h2]at this
  exact this
theorem qU(ls:List Int):trim (trim ls)=trim ls:=qg (lM ls)
theorem rP(ls:List Int):top (trim ls)=top ls:=by rw[<-iA (trim ls),qU,iA]
theorem pg{ls:List Int}{x:Int}(h:x∈trim ls):x∈ls:=List.mem_of_mem_take h

theorem rowD{H:zW}{a:Addr}{ls:List Int}(h:aG H a 0 (lvs ls)){i:Nat}(hi:i<ls.length):hat H (a.add i)=some (.int .u32 (ls.getD i 0)):=by
  have:=gZ h i (.int .u32 (ls.getD i 0)) (by simp[lvs,hi])
  rw[Nat.zero_add]at this;exact this
theorem jd{H:zW}{B:zY}{ls:List Int}(h:cY H B (lvs ls))(hl:0<ls.length): ∃a,B=some a/\aG H a 0 (lvs ls):=by
  cases B with
  | none=>rw[SrcAt_none]at h;simp[lvs]at h;subst h;simp at hl
  | some a=>exact⟨a,rfl,h⟩
theorem ph{H:zW}{B:zY}{vs:List Value}(h:cY H B vs)(k:Nat):cY H B (vs.take k):=by
  cases B with
  | none=>rw[SrcAt_none]at h;subst h;simp
  | some a=>
    rw[SrcAt_some]at h⊢
    refine iO λj v hv=>?_
    have hj:vs[j]?=some v:=by
      rw[List.getElem?_take]at hv;split at hv
      · exact hv
      · cases hv
    exact gZ h j v hj
theorem rQ(ls:List Int)(k:Nat):lvs (ls.take k)=(lvs ls).take k:=by simp[lvs,List.map_take]
theorem lf{H:zW}{mB:zY}{mN mC:Nat}{ls:List Int}(hs:cY H mB (lvs ls))(hn:mN=ls.length)(hc:mN<=mC)(h62:mN<4611686018427387904):
    ix.C mB mN mC H (λv H'=> ∃c,v=.slice mB (top ls) c/\top ls<=c/\H'=H):=by
  refine HC.via λR hR=>ix.link ?_
  unfold ix.pt zq
  refine⟨λnv H'=> ∃k:Nat,nv=k/\k<=mN/\topN ls k=top ls/\H'=H,λnv _=>nv.toNat,⟨mN,rfl,Nat.le_refl _,by rw[hn],rfl⟩,?_⟩
  rintro nv H1 ⟨k,rfl,hk,ht,rfl⟩
  by_cases h0:(k:Int)>0
  · rw[if_pos h0]
    obtain⟨j,rfl⟩: ∃j,k=j+1:=⟨k-1,by omega⟩
    have hw:IntKind.wrap .i64 (((j+1:Nat):Int)-1)=(j:Int):=by rw[w64 (by omega)];omega
    rw[hw]
    obtain⟨a,rfl,hr⟩:=jd hs (by omega)
    refine⟨a,rfl,⟨by omega,by omega⟩,ls.getD j 0,by rw[show Int.toNat (j:Int)*1=j by omega];exact rowD hr (by omega),?_⟩
    by_cases hz:ls.getD j 0=0
    · rw[if_pos hz]
      refine⟨⟨j,rfl,by omega,?_,rfl⟩,by show((j:Int)).toNat< (((j+1:Nat):Int)).toNat;omega⟩
      rw[<-ht];show _=(if _=0 then _ else _);rw[if_pos hz]
    · rw[if_neg hz]
      have hj:top ls=j+1:=by rw[<-ht];show(if _=0 then _ else _)=_;rw[if_neg hz]
      refine⟨0,j+1,rfl,rfl,by omega,by omega,λsl hsl=>?_⟩
      rw[if_neg (by omega)]at hsl
      simp only[Option.map_some,Nat.zero_mul,ld]at hsl
      refine hR _ _ ⟨mC-0,?_,by omega,rfl⟩
      rw[hsl,hj,Nat.sub_zero]
  · rw[if_neg h0]
    have hk0:k=0:=by omega
    subst hk0
    refine⟨0,0,rfl,rfl,by omega,by omega,λsl hsl=>?_⟩
    have hsl':sl=mB:=by
      rw[hsl]
      by_cases hm:mC=0
      · rw[if_pos hm]
      · rw[if_neg hm];cases mB<;>simp[ld]
    refine hR _ _ ⟨mC-0,?_,?_,rfl⟩
    · rw[hsl',<-ht];rfl
    · rw[<-ht];exact Nat.zero_le _

structure ik (lo:Nat) (H:zW) (B:zY) (n c:Nat) (ls:List Int):Prop where
  own:Own H 154 1 B n c (lvs ls)
  young: ∀i,i∈blks B->lo<=i
theorem ik.len{lo:Nat}{H:zW}{B:zY}{n c:Nat}{ls:List Int}(h:ik lo H B n c ls):n=ls.length:=by
  have:=h.own.len;simp at this;omega
theorem ik.le{lo:Nat}{H:zW}{B:zY}{n c:Nat}{ls:List Int}(h:ik lo H B n c ls):n<=c:=h.own.le
theorem ik.ext{lo:Nat}{H H':zW}{B:zY}{n c:Nat}{ls:List Int}(h:ik lo H B n c ls)(e:Ext H H'):ik lo H' B n c ls:=⟨h.own.ext e,h.young⟩
theorem ik.keep{lo:Nat}{S:List Nat}{H H':zW}{B:zY}{n c:Nat}{ls:List Int}(h:ik lo H B n c ls)(k:Fr S H H')(hS: ∀i,i∈S->i<lo):ik lo H' B n c ls:=
  ⟨h.own.keep k (λb hb hS'=>by have:=h.young b hb;have:=hS b hS';omega),h.young⟩
theorem ik.low{lo lo':Nat}{H:zW}{B:zY}{n c:Nat}{ls:List Int}(h:ik lo H B n c ls)(hl:lo'<=lo):ik lo' H B n c ls:=⟨h.own,λi hi=>Nat.le_trans hl (h.young i hi)⟩

theorem pi{H:zW}{sB:zY}{sN sC:Nat}{ls:List Int}(hs:cY H sB (lvs ls))(hn:sN=ls.length)(hb:sN<=1000000):
    bE.C sB sN sC H (λv H'=> ∃B c,v=.slice B sN c/\ik H.size H' B sN c ls/\Ext H H'):=by
  refine HC.via λR hR=>bE.link ?_
  unfold bE.pt
  cases sB with
  | none=>
    rw[onPtr_none]
    rw[SrcAt_none]at hs
    simp[lvs]at hs
    subst hs
    simp at hn
    subst hn
    exact hR _ _ ⟨none,0,rfl,⟨gH,by simp⟩,Ext.refl _⟩
  | some a=>
    rw[onPtr_some]
    intro b H1 hb1 hH1
    have e1:Ext H H1:=Ext.push' hH1
    have ho:Own H1 154 1 (some ⟨b,0,none⟩) 0 0 []:=⟨rfl,_,aO hb1 hH1,rfl,Nat.le_refl _,rfl,λj hj=>by omega⟩
    refine cZ ho (e1.rowAt hs) (by simp[lvs,hn]) (jQ _) rfl (by omega) ?_
    intro p c H2 how f hnew
    rw[Nat.zero_add]at how⊢
    refine hR _ _ ⟨p,c,rfl,⟨by simpa using how,λi hi=>?_⟩,e1.fr_trans f (λi hi=>by simp at hi;omega)⟩
    rcases hnew i hi with h | h
    · simp at h;omega
    · have:=e1.size;omega

def eU(neg:Bool)(ls:List Int):Bool×List Int×Int:=if 48<top ls then(false,[],6)else(neg && decide (0<top ls),trim ls,0)
theorem m3{lo:Nat}{H:zW}:ik lo H none 0 0 []:=⟨gH,by simp⟩
theorem m4{H:zW}{neg:Bool}{mB:zY}{mN mC:Nat}{ls:List Int}(hs:cY H mB (lvs ls))(hn:mN=ls.length)(hc:mN<=mC)(h62:mN<=1000000):
    im.C neg mB mN mC H (λv H'=> ∃B n c,v=.tuple #[.agg #[.bool (eU neg ls).1,.slice B n c],.int .i64 (eU neg ls).2.2]/\ik H.size H' B n c (eU neg ls).2.1/\Ext H H'):=by
  refine HC.via λR hR=>im.link ?_
  unfold im.pt
  intro b H1 hb hH1
  have e1:Ext H H1:=Ext.push' hH1
  have hs1:cY H1 mB (lvs ls):=hs.ext e1
  refine HC.mono (lf hs1 hn hc (by omega)) ?_
  rintro _ H2 ⟨c,rfl,htc,rfl⟩
  refine⟨_,_,_,rfl,?_⟩
  have hg:=aO hb hH1
  have hle:=j1 ls
  by_cases h48:(top ls:Int)>48
  · rw[if_pos h48]
    obtain⟨hcp,hpu⟩:=fE (vs:=[.bool false,.slice none 0 0]) hb hH1 rfl rfl
    refine⟨hcp,λH3 hH3=>?_⟩
    obtain⟨g3,e3⟩:=hpu H3 hH3
    refine⟨_,_,_,_,bQ g3,hR _ _ ⟨none,0,0,?_,?_,e3⟩⟩
    · unfold eU;rw[if_pos (by omega)]
    · unfold eU;rw[if_pos (by omega)];exact m3
  rw[if_neg h48]
  have hno: ¬48<top ls:=by omega
  have key: ∀(sg:Bool),sg=(neg && decide (0<top ls))->bE.C mB (top ls) c H2 (λv H4=> ∃xB_2:zY,∃xN_2:Nat,∃xC_2:Nat,v=.slice xB_2 xN_2 xC_2/\(aJ H4 (Addr.mk b 0 none) 0 2)/\ ∀H5:zW,H5=aP H4 (Addr.mk b 0 none) [.bool sg,.slice xB_2 xN_2 xC_2] 0->
    ∃rNeg_2:Bool,∃rMagB_2:zY,∃rMagN_2:Nat,∃rMagC_2:Nat,aG H5 (Addr.mk b 0 none) 0 [.bool rNeg_2,.slice rMagB_2 rMagN_2 rMagC_2]/\R (.tuple #[.agg #[.bool rNeg_2,.slice rMagB_2 rMagN_2 rMagC_2],.int .i64 0]) H5):=by
    intro sg hsg
    refine HC.mono (pi (ls:=trim ls) (by unfold trim;rw[rQ];exact ph hs1 _) (iA ls).symm (by omega)) ?_
    rintro _ H4 ⟨B,c4,rfl,hr,e4⟩
    refine⟨_,_,_,rfl,?_⟩
    obtain⟨hcp,hpu⟩:=iH (vs:=[.bool sg,.slice B (top ls) c4]) (e4.get hg) rfl rfl
    refine⟨hcp,λH5 hH5=>?_⟩
    obtain⟨g5,f5⟩:=hpu H5 hH5
    have hbs:=bI hg
    refine⟨_,_,_,_,bQ g5,hR _ _ ⟨B,top ls,c4,?_,?_,(e1.trans e4).fr_trans f5 (λi hi=>by simp at hi;omega)⟩⟩
    · unfold eU;rw[if_neg hno,hsg]
    · unfold eU;rw[if_neg hno]
      refine(hr.keep f5 (λi hi=>by simp at hi;omega)).low (by have:=e1.size;omega)
  by_cases hneg:neg=true
  · rw[if_pos hneg]
    exact key _ (by rw[hneg,Bool.true_and];exact decide_eq_decide.2 (by omega))
  · rw[if_neg hneg]
    exact key _ (by rw[show neg=false by simpa using hneg,Bool.false_and])
theorem qh{H:zW}{neg:Bool}{mB:zY}{mN mC:Nat}{ls:List Int}(hs:cY H mB (lvs ls))(hn:mN=ls.length)(hc:mN<=mC)(h62:mN<=1000000):
    i0.C neg mB mN mC H (λv H'=> ∃B n c,v=.tuple #[.agg #[.bool (eU neg ls).1,.slice B n c],.int .i64 (eU neg ls).2.2]/\ik H.size H' B n c (eU neg ls).2.1/\Ext H H'):=by
  refine HC.via λR hR=>i0.link ?_
  unfold i0.pt
  intro b H1 hb hH1 b2 H2 hb2 hH2
  have e1:Ext H H1:=Ext.push' hH1
  have e2:Ext H1 H2:=Ext.push' hH2
  have hg:=e2.get (aO hb hH1)
  have hg2:=aO hb2 hH2
  refine⟨neg,by rw[aU hg];rfl,mB,mN,mC,by rw[aS hg];rfl,?_⟩
  refine HC.mono (m4 (hs.ext (e1.trans e2)) hn hc h62) ?_
  rintro _ H3 ⟨B,n,c,rfl,hr,e3⟩
  refine⟨_,_,_,_,_,rfl,?_⟩
  obtain⟨hcp,hpu⟩:=iH (vs:=[.bool (eU neg ls).1,.slice B n c]) (e3.get hg2) rfl rfl
  refine⟨hcp,λH4 hH4=>?_⟩
  obtain⟨g4,f4⟩:=hpu H4 hH4
  have hb2s:=bI hg2
  have h1s:=e1.size
  refine⟨_,_,_,_,bQ g4,hR _ _ ⟨B,n,c,rfl,?_,((e1.trans e2).trans e3).fr_trans f4 (λi hi=>by simp at hi;omega)⟩⟩
  exact(hr.keep f4 (λi hi=>by simp at hi;omega)).low (by have:=e2.size;omega)

def fixX(ls:List Int):Int:=ls.getD 0 0+4294967296*ls.getD 1 0
def fixP(ls:List Int)(k:Int):Int:=if k=0 then 0 else if k=1 then ls.getD 0 0 else fixX ls
def fixR(neg:Bool)(ls:List Int):Int×Bool:=
  if 2<top ls then(0,false)else if fixX ls>1152921504606846976 then(0,false)else if fixX ls=1152921504606846976/\neg=false then(0,false)
  else if neg=true then(-fixX ls,true)else(fixX ls,true)
theorem jW{ls:List Int}(h: ∀x∈ls,fM x)(i:Nat):fM (ls.getD i 0):=by
  by_cases hi:i<ls.length
  · rw[getD_at hi];exact h _ (List.getElem_mem hi)
  · rw[lP ls i (by omega)];exact⟨by omega,by omega⟩
theorem td{l h:Int}(hl:fM l)(hh:fM h):ior .u64 l (h*4294967296)=l+4294967296*h:=by
  have h1:ior .u64 l (h*4294967296)=ior .u64 (h*4294967296) l:=by
    rw[mq ⟨hl.1,by omega⟩ ⟨by omega,by omega⟩,mq ⟨by omega,by omega⟩ ⟨hl.1,by omega⟩,Nat.or_comm]
  rw[h1,lj 32 ⟨by omega,by omega⟩ (by show _ % (4294967296:Int)=0;omega) ⟨hl.1,by show _< (4294967296:Int);omega⟩ (by decide)]
  omega
theorem pj{ls:List Int}(h:top ls<=2):fixP ls (top ls)=fixX ls:=by
  unfold fixP fixX
  by_cases h0:top ls=0
  · rw[if_pos (by omega),jR ls 0 (by omega),jR ls 1 (by omega)];rfl
  rw[if_neg (by omega)]
  by_cases h1:top ls=1
  · rw[if_pos (by omega),jR ls 1 (by omega)];omega
  rw[if_neg (by omega)]
theorem qV{H:zW}{neg:Bool}{mB:zY}{mN mC:Nat}{ls:List Int}(hs:cY H mB (lvs ls))(hn:mN=ls.length)(hc:mN<=mC)(h62:mN<=1000000)(hlm: ∀x∈ls,fM x):
    jv.C neg mB mN mC H (λv H'=>v=.tuple #[.int .i64 (fixR neg ls).1,.bool (fixR neg ls).2]/\Ext H H'):=by
  refine HC.via λR hR=>jv.link ?_
  unfold jv.pt zq
  intro b H1 hb hH1
  have e1:Ext H H1:=Ext.push' hH1
  have hg:=aO hb hH1
  have hs1:cY H1 mB (lvs ls):=hs.ext e1
  have hl0:=jW hlm 0
  have hl1:=jW hlm 1
  have hX:fixX ls=ls.getD 0 0+4294967296*ls.getD 1 0:=rfl
  refine⟨mB,mN,mC,by rw[aS hg];rfl,?_⟩
  refine HC.mono (lf hs1 hn hc (by omega)) ?_
  rintro _ H2 ⟨c,rfl,htc,rfl⟩
  have hle:=j1 ls
  have hneg:hat H2 (Addr.mk b 0 none)=some (.bool neg):=by rw[aU hg];rfl
  refine⟨_,_,_,rfl,?_⟩
  refine⟨λx s H'=>H'=H2/\(0<=s/\s<=2/\s<=(top ls:Int))/\x=fixP ls s,λx s H'=>(2-s).toNat,⟨rfl,⟨by omega,by omega,by omega⟩,rfl⟩,?_⟩
  rintro x s H3 ⟨rfl,⟨hs0,hs2,hst⟩,rfl⟩
  by_cases hlt:s< (if 2< (top ls:Int)then 2 else(top ls:Int))
  · rw[if_pos hlt]
    have hlt2:s<2/\s< (top ls:Int):=by split at hlt<;>omega
    obtain⟨a,rfl,hr⟩:=jd hs1 (by omega)
    have h32:IntKind.wrap .i64 (32*s)=32*s:=w64 (by omega)
    refine⟨a,rfl,⟨hs0,hlt2.2⟩,ls.getD s.toNat 0,by rw[Nat.mul_one];exact rowD hr (by omega),by rw[h32];omega,⟨rfl,⟨by rw[w64 (by omega)];omega,by rw[w64 (by omega)];omega,by rw[w64 (by omega)];omega⟩,?_⟩,by show(2-IntKind.wrap .i64 (s+1)).toNat< (2-s).toNat;rw[w64 (by omega)];omega⟩
    rw[h32,w64 (n:=s+1) (by omega)]
    rcases(show s=0\/s=1 by omega)with rfl | rfl
    · rw[show(0:Int).toNat=0 from rfl,wu64 (n:=ls.getD 0 0) ⟨hl0.1,by omega⟩,jJ (32*0) 0 rfl (by decide)]
      show ior .u64 0 _=ls.getD 0 0
      rw[show ls.getD 0 0*2 ^ 0 % 18446744073709551616=ls.getD 0 0 by rw[Int.pow_zero,Int.mul_one];omega,mq ⟨by decide,by decide⟩ ⟨hl0.1,by omega⟩]
      rw[show(0:Int).toNat=0 from rfl,Nat.zero_or];have:=hl0.1;omega
    · rw[show(1:Int).toNat=1 from rfl,wu64 (n:=ls.getD 1 0) ⟨hl1.1,by omega⟩,jJ (32*1) 32 rfl (by decide)]
      show ior .u64 (ls.getD 0 0) _=fixX ls
      rw[show ls.getD 1 0*2 ^ 32 % 18446744073709551616=ls.getD 1 0*4294967296 by show ls.getD 1 0*(4294967296:Int) % 18446744073709551616=_;omega,td hl0 hl1]
      rfl
  rw[if_neg hlt]
  by_cases h2:(top ls:Int)>2
  · rw[if_pos h2];refine hR _ _ ⟨?_,e1⟩;unfold fixR;rw[if_pos (by omega)]
  rw[if_neg h2]
  have hse:s=(top ls:Int):=by
    rw[if_neg (by omega)]at hlt;omega
  subst hse
  rw[pj (by omega)]
  have hno2: ¬2<top ls:=by omega
  by_cases h3:fixX ls>1152921504606846976
  · rw[if_pos h3];refine hR _ _ ⟨?_,e1⟩;unfold fixR;rw[if_neg hno2,if_pos h3]
  rw[if_neg h3]
  have hX0:0<=fixX ls:=by rw[hX];exact Int.add_nonneg hl0.1 (by have:=hl1.1;omega)
  have hminus:IntKind.wrap .i64 (0-IntKind.wrap .i64 (fixX ls))= -fixX ls:=by rw[w64 (n:=fixX ls) (by omega),w64 (by omega)];omega
  have hplus:IntKind.wrap .i64 (fixX ls)=fixX ls:=w64 (by omega)
  by_cases h4:fixX ls=1152921504606846976
  · rw[if_pos h4]
    refine⟨neg,hneg,?_⟩
    by_cases hb1:neg=true
    · rw[if_pos hb1]
      refine⟨neg,hneg,?_⟩
      rw[if_pos hb1,hminus];refine hR _ _ ⟨?_,e1⟩;unfold fixR;rw[if_neg hno2,if_neg h3,if_neg (λh=>by rw[hb1]at h;exact absurd h.2 (by decide)),if_pos hb1]
    · rw[if_neg hb1];refine hR _ _ ⟨?_,e1⟩;unfold fixR;rw[if_neg hno2,if_neg h3,if_pos ⟨h4,by simpa using hb1⟩]
  rw[if_neg h4]
  refine⟨neg,hneg,?_⟩
  have hn4: ¬(fixX ls=1152921504606846976/\neg=false):=λh=>h4 h.1
  by_cases hb1:neg=true
  · rw[if_pos hb1,hminus];refine hR _ _ ⟨?_,e1⟩;unfold fixR;rw[if_neg hno2,if_neg h3,if_neg hn4,if_pos hb1]
  · rw[if_neg hb1,hplus];refine hR _ _ ⟨?_,e1⟩;unfold fixR;rw[if_neg hno2,if_neg h3,if_neg hn4,if_neg hb1]

def mag(x:Int):Int:=if x<0 then-x else x
def ofL(x:Int):List Int:=[mag x % 4294967296,mag x / 4294967296]
theorem rR{H:zW}{x:Int}(hx:I64 x):
    kc.C x H (λv H'=> ∃B n c,v=.agg #[.bool (eU (decide (x<0)) (ofL x)).1,.slice B n c]/\ik H.size H' B n c (eU (decide (x<0)) (ofL x)).2.1/\Ext H H'):=by
  refine HC.via λR hR=>kc.link ?_
  unfold kc.pt
  intro b H1 hb hH1
  have e1:Ext H H1:=Ext.push' hH1
  have hg:=aO hb hH1
  have hbs:=bI hg
  have key: ∀(b2:Nat) (H2:zW),b2=H1.size->H2=H1.push (.cells #[.int .u32 (mag x % 4294967296),.int .u32 (mag x / 4294967296)] 154)->
      im.C (decide (x<0)) (some (Addr.mk b2 0 none)) 2 2 H2 (λv H3=> ∃raNeg:Bool,∃raMagB:zY,∃raMagN:Nat,∃raMagC:Nat,∃rb:Int,v=.tuple #[.agg #[.bool raNeg,.slice raMagB raMagN raMagC],.int .i64 rb]/\
       ∀(b_3:Nat) (H4:zW),b_3=H3.size->H4=H3.push (.cells #[.bool false,.slice none 0 0] 39)->
       (aJ H4 (Addr.mk b_3 0 none) 0 2)/\ ∀H5:zW,H5=aP H4 (Addr.mk b_3 0 none) [.bool raNeg,.slice raMagB raMagN raMagC] 0->
       ∃xNeg:Bool,∃xMagB:zY,∃xMagN:Nat,∃xMagC:Nat,aG H5 (Addr.mk b_3 0 none) 0 [.bool xNeg,.slice xMagB xMagN xMagC]/\
       (aJ H5 (Addr.mk b 0 none) 0 2)/\ ∀H6:zW,H6=aP H5 (Addr.mk b 0 none) [.bool xNeg,.slice xMagB xMagN xMagC] 0->
       ∃rNeg:Bool,∃rMagB:zY,∃rMagN:Nat,∃rMagC:Nat,aG H6 (Addr.mk b 0 none) 0 [.bool rNeg,.slice rMagB rMagN rMagC]/\
       R (.agg #[.bool rNeg,.slice rMagB rMagN rMagC]) H6):=by
    intro b2 H2 hb2 hH2
    have e2:Ext H1 H2:=Ext.push' hH2
    have hg2:=aO hb2 hH2
    refine HC.mono (m4 (ls:=ofL x) (dH hg2 _ 0 0 (λj hj=>by simp[ofL,lvs])) rfl (Nat.le_refl _) (by decide)) ?_
    rintro _ H3 ⟨B,n,c,rfl,hr,e3⟩
    refine⟨_,_,_,_,_,rfl,?_⟩
    intro b3 H4 hb3 hH4
    obtain⟨hcp,hpu⟩:=fE (vs:=[.bool (eU (decide (x<0)) (ofL x)).1,.slice B n c]) hb3 hH4 rfl rfl
    refine⟨hcp,λH5 hH5=>?_⟩
    obtain⟨g5,e5⟩:=hpu H5 hH5
    refine⟨_,_,_,_,bQ g5,?_⟩
    have e15:=(e2.trans e3).trans e5
    obtain⟨hcp6,hpu6⟩:=iH (vs:=[.bool (eU (decide (x<0)) (ofL x)).1,.slice B n c]) (e15.get hg) rfl rfl
    refine⟨hcp6,λH6 hH6=>?_⟩
    obtain⟨g6,f6⟩:=hpu6 H6 hH6
    refine⟨_,_,_,_,bQ g6,hR _ _ ⟨B,n,c,rfl,?_,(e1.trans e15).fr_trans f6 (λi hi=>by simp at hi;omega)⟩⟩
    have:=e2.size
    exact((hr.ext e5).keep f6 (λi hi=>by simp at hi;omega)).low (by have:=e1.size;omega)
  by_cases hneg:x<0
  · rw[if_pos hneg]
    intro b2 H2 hb2 hH2
    have hm:IntKind.wrap .u64 (0-IntKind.wrap .u64 x)=mag x:=by rw[jU,jU];unfold mag;rw[if_pos hneg];omega
    have hm0:0<=mag x/\mag x<=9223372036854775808:=by unfold mag;rw[if_pos hneg];omega
    rw[hm,hM 32 32 rfl (by decide),jl,jl,show(2 ^ 32:Int)=4294967296 from rfl,show mag x / 4294967296 % 4294967296=mag x / 4294967296 by omega]at hH2
    exact key b2 H2 hb2 hH2
  · rw[if_neg hneg]
    intro b2 H2 hb2 hH2
    have hm:IntKind.wrap .u64 x=mag x:=by rw[jU];unfold mag;rw[if_neg hneg];omega
    have hm0:0<=mag x/\mag x<=9223372036854775808:=by unfold mag;rw[if_neg hneg];omega
    rw[hm,hM 32 32 rfl (by decide),jl,jl,show(2 ^ 32:Int)=4294967296 from rfl,show mag x / 4294967296 % 4294967296=mag x / 4294967296 by omega]at hH2
    exact key b2 H2 hb2 hH2
def mayR(neg:Bool)(ls:List Int):Bool:=decide (ls.length<=48) && (decide (top ls=ls.length) && (!neg || decide (0<ls.length)))
theorem qW{H:zW}{neg:Bool}{mB:zY}{mN mC:Nat}{ls:List Int}(hs:cY H mB (lvs ls))(hn:mN=ls.length)(hc:mN<=mC)(h62:mN<=1000000):
    jw.C neg mB mN mC H (λv H'=>v=.bool (mayR neg ls)/\Ext H H'):=by
  refine HC.via λR hR=>jw.link ?_
  unfold jw.pt
  intro b H1 hb hH1
  have e1:Ext H H1:=Ext.push' hH1
  have hg:=aO hb hH1
  have hm:hat H1 ((Addr.mk b 0 none).add 1)=some (.slice mB mN mC):=by rw[aS hg];rfl
  have hng:hat H1 (Addr.mk b 0 none)=some (.bool neg):=by rw[aU hg];rfl
  refine⟨mB,mN,mC,hm,?_⟩
  by_cases h48:(mN:Int)<=48
  · rw[if_pos h48]
    refine⟨mB,mN,mC,hm,mB,mN,mC,hm,neg,hng,mB,mN,mC,hm,?_⟩
    refine HC.mono (lf (hs.ext e1) hn hc (by omega)) ?_
    rintro _ H2 ⟨c,rfl,htc,rfl⟩
    refine⟨_,_,_,rfl,⟨hm,trivial⟩,⟨hng,trivial⟩,⟨hm,trivial⟩,?_⟩
    have h1:decide (ls.length<=48)=true:=zQ (by omega)
    by_cases ht:(top ls:Int)=(mN:Int)
    · rw[if_pos ht]
      have h2:decide (top ls=ls.length)=true:=zQ (by omega)
      by_cases hneg:neg=true
      · rw[if_pos hneg];refine hR _ _ ⟨?_,e1⟩;unfold mayR;rw[h1,h2,hneg];simp;rw[hn]
      · rw[if_neg hneg];refine hR _ _ ⟨?_,e1⟩;unfold mayR;rw[h1,h2,show neg=false by simpa using hneg];rfl
    · rw[if_neg ht]
      refine hR _ _ ⟨?_,e1⟩
      unfold mayR;rw[zJ (p:=top ls=ls.length) (by omega)];simp
  · rw[if_neg h48]
    refine hR _ _ ⟨?_,e1⟩
    unfold mayR;rw[zJ (p:=ls.length<=48) (by omega)];rfl
theorem m6{H:zW}{na nb:Bool}{aB bB:zY}{aN aC bN bC:Nat}{la lb:List Int}(ha:cY H aB (lvs la))(hna:aN=la.length)(hb:cY H bB (lvs lb))(hnb:bN=lb.length)(h62:aN<=1000000):
    dP.C na aB aN aC nb bB bN bC H (λv H'=>v=.bool (decide (na=nb/\la=lb))/\Ext H H'):=by
  refine HC.via λR hR=>dP.link ?_
  unfold dP.pt zq
  intro b H1 hb1 hH1 b2 H2 hb2 hH2
  have e1:Ext H H1:=Ext.push' hH1
  have e2:Ext H1 H2:=Ext.push' hH2
  have hg:=e2.get (aO hb1 hH1)
  have hg2:=aO hb2 hH2
  have ha2:=ha.ext (e1.trans e2)
  have hb2':=hb.ext (e1.trans e2)
  have hma:hat H2 ((Addr.mk b 0 none).add 1)=some (.slice aB aN aC):=by rw[aS hg];rfl
  have hmb:hat H2 ((Addr.mk b2 0 none).add 1)=some (.slice bB bN bC):=by rw[aS hg2];rfl
  refine⟨na,by rw[aU hg];rfl,nb,by rw[aU hg2];rfl,?_⟩
  by_cases h1:na=nb
  case neg=>rw[if_neg h1];exact hR _ _ ⟨by rw[zJ (λh=>h1 h.1)],e1.trans e2⟩
  rw[if_pos h1]
  refine⟨_,_,_,hma,_,_,_,hmb,?_⟩
  by_cases h2:(aN:Int)=(bN:Int)
  case neg=>rw[if_neg h2];exact hR _ _ ⟨by rw[zJ (λh=>h2 (by rw[hna,hnb,h.2]))],e1.trans e2⟩
  rw[if_pos h2]
  refine⟨λi H'=>H'=H2/\ ∃k:Nat,i=k/\k<=aN/\ ∀j,j<k->la.getD j 0=lb.getD j 0,λi _=>(aN-i).toNat,⟨rfl,0,rfl,by omega,λj hj=>by omega⟩,?_⟩
  rintro i H3 ⟨rfl,k,rfl,hk,hsame⟩
  refine⟨_,_,_,hma,?_⟩
  by_cases hlt:(k:Int)< (aN:Int)
  · rw[if_pos hlt]
    obtain⟨a,rfl,hr⟩:=jd ha2 (by omega)
    obtain⟨a',rfl,hr'⟩:=jd hb2' (by omega)
    refine⟨_,_,_,hma,a,rfl,⟨by omega,hlt⟩,la.getD k 0,by rw[show Int.toNat (k:Int)*1=k by omega];exact rowD hr (by omega),_,_,_,hmb,a',rfl,⟨by omega,by omega⟩,lb.getD k 0,by rw[show Int.toNat (k:Int)*1=k by omega];exact rowD hr' (by omega),?_⟩
    by_cases he:la.getD k 0=lb.getD k 0
    · rw[if_pos he]
      refine⟨⟨rfl,k+1,by rw[w64 (by omega)];omega,by omega,λj hj=>?_⟩,by show((aN:Int)-IntKind.wrap .i64 ((k:Int)+1)).toNat< ((aN:Int)-(k:Int)).toNat;rw[w64 (by omega)];omega⟩
      by_cases hjk:j=k
      · rw[hjk];exact he
      · exact hsame j (by omega)
    · rw[if_neg he]
      exact hR _ _ ⟨by rw[zJ (λh=>he (by rw[h.2]))],e1.trans e2⟩
  · rw[if_neg hlt]
    have hl:la=lb:=List.ext_getElem (by omega) λj hj hj'=>by
      have:=hsame j (by omega)
      rw[getD_at hj,getD_at hj']at this;exact this
    exact hR _ _ ⟨by rw[zQ ⟨h1,hl⟩],e1.trans e2⟩

theorem qH{neg:Bool}{ls:List Int}(hlm: ∀x∈ls,fM x)(h:(fixR neg ls).2=true): -1152921504606846976<=(fixR neg ls).1/\(fixR neg ls).1<1152921504606846976:=by
 have hl0:=jW hlm 0
 have hl1:=jW hlm 1
 have hX:fixX ls=ls.getD 0 0+4294967296*ls.getD 1 0:=rfl
 unfold fixR at h⊢
 by_cases h1:2<top ls
 ·rw[if_pos h1]at h;exact absurd h (by decide)
 rw[if_neg h1]at h⊢
 by_cases h2:fixX ls>1152921504606846976
 ·rw[if_pos h2]at h;exact absurd h (by decide)
 rw[if_neg h2]at h⊢
 by_cases h3:fixX ls=1152921504606846976/\neg=false
 ·rw[if_pos h3]at h;exact absurd h (by decide)
 rw[if_neg h3]at h⊢
 by_cases h4:neg=true
 ·rw[if_pos h4];exact⟨by show _<= -fixX ls;omega,by show-fixX ls<_;omega⟩
 ·rw[if_neg h4]
  have:fixX ls≠1152921504606846976:=λe=>h3 ⟨e,by simpa using h4⟩
  exact⟨by show _<=fixX ls;omega,by show fixX ls<_;omega⟩
theorem nd{ls:List Int}(h: ∀x∈ls,fM x): ∀x∈ls,aM x:=λx hx=>by have:=h x hx;exact⟨this.1,by omega⟩
theorem jS{ls:List Int}(h: ∀x∈ls,fM x): ∀x∈trim ls,fM x:=λx hx=>h x (pg hx)

def bigR(o:Option (Blk×Hp))(neg:Bool)(ls:List Int):Int×Int:=
 if 48<top ls then(0,6)else if(fixR (eU neg ls).1 (trim ls)).2=true then(fixW (fixR (eU neg ls).1 (trim ls)).1,0)else hZ o 3 (if(eU neg ls).1=true then 1 else 0) (trim ls)
def bigO(o:Option (Blk×Hp))(neg:Bool)(ls:List Int):Option (Blk×Hp):=
 if 48<top ls then o else if(fixR (eU neg ls).1 (trim ls)).2=true then o else ii o 3 (if(eU neg ls).1=true then 1 else 0) (trim ls)
theorem qX{H:zW}{hv:zY}{o:Option (Blk×Hp)}{neg:Bool}{mB:zY}{mN mC:Nat}{ls:List Int}(V:View H hv o)(hcn:l3 o)
  (hs:cY H mB (lvs ls)) (hn:mN=ls.length) (hc:mN<=mC) (h62:mN<=1000000) (hlm: ∀x∈ls,fM x):
  gR.C hv neg mB mN mC H (λv H'=>v=.tuple #[.int .u64 (bigR o neg ls).1,.int .i64 (bigR o neg ls).2]/\View H' hv (bigO o neg ls)/\Fr (own o) H H'):=by
 refine HC.via λR hR=>gR.link ?_
 unfold gR.pt zq
 intro b H1 hb hH1
 have e1:Ext H H1:=Ext.push' hH1
 refine⟨_,_,_,_,bQ (aO hb hH1),?_⟩
 refine HC.mono (qh (hs.ext e1) hn hc h62) ?_
 rintro _ H2 ⟨B,n,c,rfl,hr,e2⟩
 refine⟨_,_,_,_,_,rfl,?_⟩
 intro b2 H3 hb2 hH3
 obtain⟨hcp,hpu⟩:=fE (vs:=[.bool (eU neg ls).1,.slice B n c]) hb2 hH3 rfl rfl
 refine⟨hcp,λH4 hH4=>?_⟩
 obtain⟨g4,e4⟩:=hpu H4 hH4
 have e14:=(e1.trans e2).trans e4
 by_cases h48:48<top ls
 ·have h6:(eU neg ls).2.2=6:=by unfold eU;rw[if_pos h48]
  rw[h6,if_neg (by decide)]
  refine hR _ _ ⟨?_,?_,e14.fr⟩
  ·unfold bigR;rw[if_pos h48]
  ·unfold bigO;rw[if_pos h48];exact V.ext e14
 have h0:(eU neg ls).2.2=0:=by unfold eU;rw[if_neg h48]
 have ht:(eU neg ls).2.1=trim ls:=by unfold eU;rw[if_neg h48]
 rw[ht]at hr
 rw[h0,if_pos rfl]
 refine⟨_,_,_,_,bQ g4,?_⟩
 have hr4:=hr.ext e4
 have htl:=iA ls
 have hln:=hr.len
 refine HC.mono (qV hr4.own.src hr.len hr.le (by omega) (jS hlm)) ?_
 rintro _ H5 ⟨rfl,e5⟩
 refine⟨_,_,rfl,?_⟩
 have e15:=e14.trans e5
 by_cases hfx:(fixR (eU neg ls).1 (trim ls)).2=true
 ·rw[if_pos hfx]
  have hin:=qH (jS hlm) hfx
  refine HC.mono (pW ⟨by omega,by omega⟩) ?_
  rintro _ H6 ⟨rfl,e6⟩
  rw[if_pos hin]
  refine⟨_,_,rfl,hR _ _ ⟨?_,?_,(e15.trans e6).fr⟩⟩
  ·unfold bigR;rw[if_neg h48,if_pos hfx]
  ·unfold bigO;rw[if_neg h48,if_pos hfx];exact V.ext (e15.trans e6)
 rw[if_neg hfx]
 have g5:=e5.get g4
 have hr5:=hr4.ext e5
 refine⟨B,n,c,by rw[aS g5];rfl,?_⟩
 refine⟨λp m d i H'=> ∃k:Nat,i=k/\k<=(trim ls).length/\Ext H5 H'/\Own H' 33 1 p m d (wvs ((trim ls).take k))/\m=k/\(∀j,j∈blks p->H5.size<=j),λ_ _ _ i _=>((trim ls).length-i).toNat,⟨0,rfl,by omega,Ext.refl _,by simpa using gH,rfl,by simp⟩,?_⟩
 rintro p m d i H7 ⟨k,rfl,hk,e7,how,hmk,hbk⟩
 obtain rfl:=hmk.symm
 by_cases hlt:(k:Int)< (n:Int)
 ·rw[if_pos hlt]
  obtain⟨a,rfl,hrow⟩:=jd (hr5.ext e7).own.src (by omega)
  refine⟨a,rfl,⟨by omega,hlt⟩,(trim ls).getD k 0,by rw[show Int.toNat (k:Int)*1=k by omega];exact rowD hrow (by omega),?_⟩
  have hlb:=jW (jS hlm) k
  intro b3 H8 hb3 hH8
  rw[wu64 (n:=(trim ls).getD k 0) ⟨hlb.1,by omega⟩]at hH8
  have e8:Ext H7 H8:=Ext.push' hH8
  refine cZ (ys:=wvs [(trim ls).getD k 0]) (how.ext e8) (dH (aO hb3 hH8) _ 0 0 (λj hj=>by simp)) (by simp) (gM _) rfl (by omega) ?_
  intro p' c' H9 how9 f9 hnew
  refine⟨⟨k+1,by rw[w64 (by omega)];omega,by omega,(e7.trans e8).fr_trans f9 hbk,?_,rfl,λj hj=>?_⟩,by show(((trim ls).length:Int)-IntKind.wrap .i64 ((k:Int)+1)).toNat< (((trim ls).length:Int)-(k:Int)).toNat;rw[w64 (by omega)];omega⟩
  ·rw[List.take_succ_eq_append_getElem (by omega),<-getD_at (by omega) 0]
   simpa[wvs]using how9
  ·rcases hnew j hj with h | h
   ·exact hbk j h
   ·have:=(e7.trans e8).size;omega
 rw[if_neg hlt]
 have hkn:k=(trim ls).length:=by omega
 rw[hkn,List.take_length]at how
 refine⟨_,by rw[aU (e7.get g5)];rfl,?_⟩
 have e17:=e15.trans e7
 have key: ∀mo:Int,mo=(if(eU neg ls).1=true then 1 else 0)->dO.C hv 3 mo p k d H7 (λv_4 H10=> ∃ra_3:Int,∃rb_4:Int,v_4=.tuple #[.int .u64 ra_3,.int .i64 rb_4]/\R (.tuple #[.int .u64 ra_3,.int .i64 rb_4]) H10):=by
  intro mo hmo
  have hmw:aM mo:=by rw[hmo];split<;>exact⟨by decide,by decide⟩
  refine HC.mono (kg (ws:=trim ls) (V.ext e17) how.src (by omega) (nd (jS hlm)) (by decide) hmw hcn (by omega)) ?_
  rintro _ H10 ⟨rfl,V10,f10⟩
  refine⟨_,_,rfl,hR _ _ ⟨?_,?_,e17.fr.trans f10⟩⟩
  ·unfold bigR;rw[if_neg h48,if_neg hfx,hmo]
  ·unfold bigO;rw[if_neg h48,if_neg hfx,<-hmo];exact V10
 by_cases hsg:(eU neg ls).1=true
 ·rw[if_pos hsg];exact key 1 (by rw[if_pos hsg])
 ·rw[if_neg hsg];exact key 0 (by rw[if_neg hsg])

def numW(m:Mem)(w:Int):Bool×List Int×Int:=
 if w % 8=0 then((eU (decide (signed w / 8<0)) (ofL (signed w / 8))).1,(eU (decide (signed w / 8<0)) (ofL (signed w / 8))).2.1,0)
 else if m.isObj w/\m.typ w=3 then
  (if mayR (m.more w==1) ((m.objWords w).map (· % 4294967296))=true/\ ¬m.more w>1 then(m.more w==1,(m.objWords w).map (· % 4294967296),0)else(false,[],3))
 else(false,[],3)
theorem qY{H:zW}{hv:zY}{o:Option (Blk×Hp)}{w:Int}(V:View H hv o)(hw:aM w):
  gT.C hv w H (λv H'=> ∃B n c,v=.tuple #[.agg #[.bool (numW (mof o) w).1,.slice B n c],.int .i64 (numW (mof o) w).2.2]/\ik H.size H' B n c (numW (mof o) w).2.1/\Ext H H'):=by
 refine HC.via λR hR=>gT.link ?_
 unfold gT.pt zq
 intro b H1 hb hH1
 have e1:Ext H H1:=Ext.push' hH1
 have hg:=aO hb hH1
 have hbs:=bI hg
 refine HC.mono (pX hw) ?_
 rintro _ H2 ⟨rfl,e2⟩
 have e12:=e1.trans e2
 have hg2:=e2.get hg
 have none3: ∀(H5:zW),Ext H2 H5->numW (mof o) w=(false,[],3)->(aJ H5 (Addr.mk b 0 none) 0 2)/\ ∀H18:zW,H18=aP H5 (Addr.mk b 0 none) [.bool false,.slice none 0 0] 0->
   ∃rNeg_5:Bool,∃rMagB_5:zY,∃rMagN_5:Nat,∃rMagC_5:Nat,aG H18 (Addr.mk b 0 none) 0 [.bool rNeg_5,.slice rMagB_5 rMagN_5 rMagC_5]/\R (.tuple #[.agg #[.bool rNeg_5,.slice rMagB_5 rMagN_5 rMagC_5],.int .i64 3]) H18:=by
  intro H5 e5 hno
  obtain⟨hcp,hpu⟩:=iH (vs:=[.bool false,.slice none 0 0]) (e5.get hg2) rfl rfl
  refine⟨hcp,λH6 hH6=>?_⟩
  obtain⟨g6,f6⟩:=hpu H6 hH6
  refine⟨_,_,_,_,bQ g6,hR _ _ ⟨none,0,0,by rw[hno],by rw[hno];exact m3,(e12.trans e5).fr_trans f6 (λi hi=>by simp at hi;omega)⟩⟩
 by_cases hf:w % 8=0
 ·rw[if_pos hf]
  refine⟨_,_,rfl,?_⟩
  rw[if_pos rfl]
  have hsg:I64 (signed w / 8):=by unfold signed;split<;>exact⟨by omega,by omega⟩
  refine HC.mono (rR hsg) ?_
  rintro _ H3 ⟨B,n,c,rfl,hr,e3⟩
  refine⟨_,_,_,_,rfl,?_⟩
  obtain⟨hcp,hpu⟩:=iH (vs:=[.bool (eU (decide (signed w / 8<0)) (ofL (signed w / 8))).1,.slice B n c]) (e3.get hg2) rfl rfl
  refine⟨hcp,λH4 hH4=>?_⟩
  obtain⟨g4,f4⟩:=hpu H4 hH4
  have hs2:=e2.size
  refine⟨_,_,_,_,bQ g4,hR _ _ ⟨B,n,c,?_,?_,(e12.trans e3).fr_trans f4 (λi hi=>by simp at hi;omega)⟩⟩
  ·unfold numW;rw[if_pos hf]
  ·unfold numW;rw[if_pos hf]
   exact(hr.keep f4 (λi hi=>by simp at hi;omega)).low (by have:=e12.size;omega)
 rw[if_neg hf]
 refine⟨_,_,rfl,?_⟩
 rw[if_neg (by decide)]
 refine HC.mono (l4 (V.ext e12) hw) ?_
 rintro _ H5 ⟨e5,⟨hno,rfl⟩ | ⟨hO,hty,bw,hbw,rfl,how⟩⟩
 ·refine⟨_,_,_,_,rfl,?_⟩
  rw[if_neg (by decide)]
  exact none3 H5 e5 (by unfold numW;rw[if_neg hf,if_neg hno])
 refine⟨_,_,_,_,rfl,?_⟩
 rw[if_pos rfl]
 have hwd:=V.objWord w
 have hl62:((mof o).objWords w).length<=62:=by rw[Mem.objWords_len];have:=V.len_bd w;omega
 have hnum:numW (mof o) w=(if mayR ((mof o).more w==1) (((mof o).objWords w).map (· % 4294967296))=true/\ ¬(mof o).more w>1 then((mof o).more w==1,((mof o).objWords w).map (· % 4294967296),0)else(false,[],3)):=by
  unfold numW;rw[if_neg hf,if_pos ⟨hO,hty⟩]
 refine HC.mono (kf (V.ext (e12.trans e5)) hw) ?_
 rintro _ H6 ⟨rfl,e6⟩
 refine⟨_,rfl,?_⟩
 intro b2 H7 hb2 hH7
 obtain⟨hcp7,hpu7⟩:=fE (vs:=[.bool ((mof o).more w==1),.slice none 0 0]) hb2 hH7 rfl rfl
 refine⟨hcp7,λH8 hH8=>?_⟩
 obtain⟨g8,e8⟩:=hpu7 H8 hH8
 have e18:=((e12.trans e5).trans e6).trans e8
 have how8:=how.ext (e6.trans e8)
 have hbw8:=how8.lt bw (by simp)
 have hbw5:=how.lt bw (by simp)
 have hb2s:=bI g8
 have h6s:=e6.size
 generalize hwsd:(mof o).objWords w=ws at*
 generalize hmo:(mof o).more w=mo at*
 refine⟨λs H'=> ∃(k:Nat) (p:zY) (d:Nat),s=k/\k<=ws.length/\H'[b2]?=some (.cells #[.bool (mo==1),.slice p k d] 39 (0,0))/\Own H' 154 1 p k d (lvs ((ws.map (· % 4294967296)).take k))/\(∀j,j∈blks p->H8.size<=j)/\Fr [b2] H8 H',λs _=>(ws.length-s).toNat,⟨0,none,0,rfl,by omega,g8,by simpa using gH,by simp,Fr.refl _ _⟩,?_⟩
 rintro s H9 ⟨k,p,d,rfl,hk,g9,how9,hbk9,f9⟩
 have hw9:=how8.keep f9 (λj hj=>by simp at hj⊢;omega)
 have e19:Ext H H9:=e18.fr_trans f9 (λi hi=>by simp at hi;have:=(((e12.trans e5).trans e6)).size;omega)
 by_cases hlt:(k:Int)< (ws.length:Int)
 ·rw[if_pos hlt]
  have hx:=hwd _ (List.getElem_mem (show k<ws.length by omega))
  obtain⟨a,ha,hat9⟩:=hw9.at (j:=k) (v:=.int .u64 ws[k]) (by simp[wvs])
  cases ha
  refine⟨_,rfl,⟨by omega,hlt⟩,ws[k],by rw[show Int.toNat (k:Int)*1=k by omega];exact hat9,p,k,d,by rw[aS g9];rfl,?_⟩
  intro b3 H10 hb3 hH10
  rw[jl]at hH10
  have e10:Ext H9 H10:=Ext.push' hH10
  refine cZ (ys:=lvs [ws[k] % 4294967296]) (how9.ext e10) (dH (aO hb3 hH10) _ 0 0 (λj hj=>by simp)) (by simp) (jQ _) rfl (by omega) ?_
  intro p' c' H11 how11 f11 hnew
  have g11:=f11.get (λhi=>by have:=hbk9 _ hi;omega) (e10.get g9)
  obtain⟨hcp12,hpu12⟩:=mr g11 1 (.slice p' (k+1) c') (by show 1<2;omega)
  refine⟨hcp12,λH12 hH12=>?_⟩
  obtain⟨g12,f12⟩:=hpu12 H12 hH12
  have hsz:=f9.size
  have hsz10:=e10.size
  have hnew': ∀j,j∈blks p'->H8.size<=j:=λj hj=>by
   rcases hnew j hj with h | h
   ·exact hbk9 j h
   ·omega
  refine⟨⟨k+1,p',c',by rw[w64 (by omega)];omega,by omega,g12,?_,hnew',?_⟩,by show((ws.length:Int)-IntKind.wrap .i64 ((k:Int)+1)).toNat< ((ws.length:Int)-(k:Int)).toNat;rw[w64 (by omega)];omega⟩
  ·have h12:=how11.keep f12 (λj hj=>by have:=hnew' j hj;simp;omega)
   rw[List.take_succ_eq_append_getElem (by simp;omega)]
   simpa[lvs]using h12
  ·exact((f9.trans' e10.fr (S'':=[b2]) (λi h _=>h) (λi h _=>h)).trans' f11 (S'':=[b2]) (λi h _=>h) (λi h hs=>absurd (hbk9 i h) (by omega))).trans f12
 rw[if_neg hlt]
 have hkn:k=ws.length:=by omega
 rw[List.take_of_length_le (by simp;omega)]at how9
 refine⟨_,_,_,_,bQ g9,?_⟩
 refine HC.mono (qW how9.src (by simp;omega) how9.le (by omega)) ?_
 rintro _ H13 ⟨rfl,e13⟩
 refine⟨_,rfl,?_⟩
 have hg9:H9[b]?=some (.cells #[.bool false,.slice none 0 0] 39 (0,0)):=f9.get (λhi=>by simp at hi;have:=(((e2.trans e5).trans e6)).size;omega) (((e5.trans e6).trans e8).get hg2)
 have e29:Ext H2 H9:=((e5.trans e6).trans e8).fr_trans f9 (λi hi=>by simp at hi;have:=((e5.trans e6)).size;omega)
 by_cases hmay:mayR (mo==1) (ws.map (· % 4294967296))=true
 case neg=>
  rw[if_neg hmay]
  exact none3 H13 (e29.trans e13) (by rw[hnum,if_neg (λh=>hmay h.1)])
 rw[if_pos hmay]
 refine HC.mono (kf (V.ext (e19.trans e13)) hw) ?_
 rintro _ H14 ⟨rfl,e14⟩
 refine⟨_,rfl,?_⟩
 rw[hmo]
 by_cases hgt:mo>1
 ·rw[if_pos hgt]
  exact none3 H14 ((e29.trans e13).trans e14) (by rw[hnum,if_neg (λh=>h.2 hgt)])
 rw[if_neg hgt]
 have g14:=(e13.trans e14).get g9
 have how14:=how9.ext (e13.trans e14)
 refine⟨_,_,_,_,bQ g14,?_⟩
 obtain⟨hcp,hpu⟩:=iH (vs:=[.bool (mo==1),.slice p k d]) ((e13.trans e14).get hg9) rfl rfl
 refine⟨hcp,λH16 hH16=>?_⟩
 obtain⟨g16,f16⟩:=hpu H16 hH16
 have h18s:=e18.size
 have h2s:=e2.size
 have h28s:=((e5.trans e6).trans e8).size
 refine⟨_,_,_,_,bQ g16,hR _ _ ⟨p,k,d,by rw[hnum,if_pos ⟨hmay,hgt⟩],?_,((e19.trans e13).trans e14).fr_trans f16 (λi hi=>by simp at hi;omega)⟩⟩
 rw[hnum,if_pos ⟨hmay,hgt⟩]
 exact⟨how14.keep f16 (λj hj=>by have:=hbk9 j hj;simp;omega),λj hj=>by have:=hbk9 j hj;omega⟩
