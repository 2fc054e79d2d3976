/-
 The chapter's first example of symbols; what may be a name. Proves nothing of any one statement.
-/
import Derived.Test.YtffacgdneichhaaGreatDoorSyB
import Derived.Test.YtffacgdneichhaaGreatDoorAtR
import Derived.Test.YtffacgdneichhaaGreatDoorFmorainelaw16
import Derived.Test.YtffacgdneichhaaGreatDoorAct16
set_option linter.unusedVariables false
set_option linter.unusedSimpArgs false
namespace Go.Proofs.YtffacgdneichhaaGreatDoor
open Go

theorem pq(s:ByteArray):(aX s).length=0 ↔ s.size=0:=by
 constructor
 ·intro h
  rcases Nat.eq_zero_or_pos s.size with h0 | h0
  ·exact h0
  ·have:aX s=_:=gO (s:=s) (pos:=0) h0
   rw[this]at h;simp at h
 ·intro h
  have:aX s=[]:=gD (s:=s) (pos:=0) (by omega)
  rw[this];rfl
theorem sR{H:zV}{s:ByteArray}(hs:s.size<=1000000):bY.C s H (λv H'=>v=.int .i64 (fo s)/\Ext H H'):=by
 refine HC.via λR hR=>bY.link ?_
 unfold bY.pt
 refine HC.mono (od hs) ?_
 rintro _ H1 ⟨B,n,c,rfl,hn,e1⟩
 refine⟨_,_,_,_,rfl,?_⟩
 unfold fo at hR
 cases hv:Lib.validD s.data.toList with
 | false=>
  rw[if_pos (by simp)]
  rw[if_pos (.inl hv)]at hR
  exact hR _ _ ⟨rfl,e1⟩
 | true=>
  obtain⟨rfl,_,_⟩:=hn hv
  have hz:=pq s
  by_cases h0:s.size=0
  ·rw[if_pos (by simp;exact List.length_eq_zero_iff.1 (hz.2 h0))]
   rw[if_pos (.inr h0)]at hR
   exact hR _ _ ⟨rfl,e1⟩
  rw[if_neg (by simp;intro h;exact h0 (hz.1 (by rw[h];rfl)))]
  rw[if_neg (by rw[hv];simp[h0])]at hR
  by_cases h62:((aX s).length:Int)>62
  ·rw[if_pos h62]
   rw[if_pos (by omega)]at hR
   exact hR _ _ ⟨rfl,e1⟩
  ·rw[if_neg h62]
   rw[if_neg (by omega)]at hR
   exact hR _ _ ⟨rfl,e1⟩
theorem rm{H:zV}:bF.C H (λv H'=> ∃(k:Blk) (x:Hp) (b:Nat) (cs:Array Value),v=.pointer (some ⟨b,0,none⟩)/\H'[b]?=some (.cells cs 39 (0,0))/\cs[0]?=some (.pointer (some ⟨k.h,0,none⟩))/\b ∉ k.all/\H.size<=b/\Live H H' k x/\x.sp.mem.count=0/\x.sp.mem.Even/\x.sp.mem.free=100/\x.sy=.slice none 0 0):=by
 refine HC.via λR hR=>bF.link ?_
 unfold bF.pt zY
 refine HC.mono (mM ⟨by decide,by decide⟩) ?_
 rintro _ H1 (⟨hno,_⟩ | ⟨_,k,x,rfl,V1,hx,e1,hy⟩)
 ·exact absurd ⟨by decide,by decide⟩ hno
 have L1:Live H H1 k x:=⟨V1.inv.2.1,V1.inv.2.2,e1,hy⟩
 have hc:x.sp.mem.count=0:=by subst hx;rfl
 have hv:x.sp.mem.Even:=by subst hx;exact lM _
 have hf:x.sp.mem.free=100:=by subst hx;rfl
 have hsy:x.sy=.slice none 0 0:=by subst hx;rfl
 clear hx V1
 refine⟨_,_,rfl,?_⟩
 rw[if_pos rfl,onPtr_some]
 intro b H2 hb hH2
 have e2:Ext H1 H2:=Ext.push' hH2
 have g2:=aL hb hH2
 have L2:=L1.grow e2
 have hbk:b ∉ k.all:=λh=>by have:=L1.at'.lt b h;omega
 have hbH:H.size<=b:=by have:=e1.size;omega
 refine⟨λi A=>(0<=i/\i<=8)/\(∃cs:Array Value,A[b]?=some (.cells cs 39 (0,0))/\cs.size=18/\cs[0]?=some (.pointer (some ⟨k.h,0,none⟩)))/\Fr [b] H2 A,λi _=>(8-i).toNat,⟨by omega,⟨_,g2,rfl,rfl⟩,Fr.refl _ _⟩,?_⟩
 rintro i A ⟨hi,⟨cs,g,hcs,h0⟩,fA⟩
 by_cases hlt:i<8
 ·rw[if_pos hlt]
  have ea:((Addr.mk b 0 none).add 1).add (Int.toNat i*1)=(Addr.mk b 0 none).add (1+i.toNat):=by rw[addr_add_mk,addr_add_mk,addr_add_mk];congr 1;omega
  rw[ea]
  obtain⟨p1,p2⟩:=lk g (1+i.toNat) (.int .u64 20) (by omega)
  refine⟨⟨hi.1,hlt⟩,p1,λH4 hH4=>?_⟩
  obtain⟨g4,f4⟩:=p2 H4 hH4
  rw[w64 (by omega)]
  refine⟨⟨by omega,⟨_,g4,by simpa using hcs,?_⟩,fA.trans f4⟩,by show((8:Int)-(i+1)).toNat< ((8:Int)-i).toNat;omega⟩
  rw[Array.getElem?_setIfInBounds_ne (by omega)];exact h0
 ·rw[if_neg hlt]
  have LA:Live H A k x:=⟨L2.at'.keep fA (λi hi=>by simp at hi;subst hi;exact hbk),L2.ok,L2.ext.fr_trans fA (λi hi=>by simp at hi;omega),L2.young⟩
  exact hR _ _ ⟨k,x,b,cs,rfl,g,h0,hbk,hbH,LA,hc,hv,hf,hsy⟩
def sA:ByteArray:=ByteArray.mk #[97]
def sB:ByteArray:=ByteArray.mk #[98]
theorem nI:aX sA=[97]:=by kernel_rfl
theorem pS:aX sB=[98]:=by kernel_rfl
theorem rn:gX [97]=sA:=by kernel_rfl
theorem rp{c:UInt8}(hc:c.toNat<128):oX (ByteArray.mk #[c]):=λi d h=>by
 rcases Nat.lt_or_ge i 1 with hi | hi
 ·obtain rfl:i=0:=by omega
  obtain rfl:c=d:=Option.some.inj h
  exact hc
 ·rw[getElem?_neg (ByteArray.mk #[c]) i (by show ¬i<1;omega)]at h;cases h
theorem qi{H0 H:zV}{k:Blk}{x:Hp}{syl:List Int}{b:Nat}{cs:Array Value}(S:SyAt H0 H k x syl)(g:H[b]?=some (.cells cs 39 (0,0))):b ∉ syB x.sy:=by
 obtain⟨B,c,e,o,_,_⟩:=S
 rw[e]
 show b ∉ blks B
 cases B with
 | none=>simp
 | some a=>
  obtain⟨_,cs',hb,_⟩:=o
  intro h
  simp at h
  subst h
  rw[g]at hb
  simp only[Option.some.injEq,Obj.cells.injEq]at hb
  exact absurd hb.2.1 (by decide)
set_option maxRecDepth 100000 in
theorem qj{H:zV}:bN.C H (λv H'=>v=.bool true/\Ext H H'):=by
 refine HC.via λR hR=>bN.link ?_
 unfold bN.pt
 refine HC.mono rm ?_
 rintro _ H1 ⟨k,x,b,cs,rfl,g1,hcs,hbk,hbH,L1,hc,hv,hf,hsy⟩
 refine⟨_,rfl,?_⟩
 rw[onPtr_some]
 have ptr: ∀{A:zV},A[b]?=some (.cells cs 39 (0,0))->hat A ⟨b,0,none⟩=some (.pointer (some ⟨k.h,0,none⟩)):=λg=>by
  have h:=gq g 0
  rw[oO]at h
  rw[h];exact hcs
 have va: ∀A,aP.C sA A (λv A'=>v=.bool true/\Ext A A'):=λA=>iH (by decide) (rp (by decide))
 have vb: ∀A,aP.C sB A (λv A'=>v=.bool true/\Ext A A'):=λA=>iH (by decide) (rp (by decide))
 have na:sA.toList≠(ByteArray.mk #[]).toList:=λh=>by have:=(hZ sA).1 h;cases this
 have nb:sB.toList≠(ByteArray.mk #[]).toList:=λh=>by have:=(hZ sB).1 h;cases this
 have S1:SyAt H H1 k x []:=.nil hsy
 refine⟨_,ptr g1,HC.mono (ji L1 hv S1 (by simp) na (va _) (by show(aX sA).length<=62;rw[nI];decide) rfl (by omega) (by omega)) ?_⟩
 rintro _ H2 ⟨w1,s1,y1,p1,q1,rfl,L2,M1,M2,hsp1,_,_,S2,n1,f2⟩
 rw[show ByteArray.mk #[97]=sA from rfl,nI]at M1
 have g2:=f2.get (by rw[hsy];show b ∉ k.all++blks none;simpa using hbk) g1
 have c1:=M1.made.count
 have r1:=M1.made.free
 have c2:=M2.made.count
 have r2:=M2.made.free
 have tw1:cE y1.sp.mem w1 4 0 [s1]:=by rw[hsp1];exact M2.thing
 have ts1:cE y1.sp.mem s1 2 0 [97]:=by rw[hsp1];exact M1.thing.keep n1 M2.made.keep
 have hv1:y1.sp.mem.Even:=by rw[hsp1];exact M2.even
 have nm1:=nF tw1 ts1
 rw[rn]at nm1
 refine⟨_,_,rfl,_,ptr g2,HC.mono (ji L2 hv1 S2 (by simp) nb (vb _) (by show(aX sB).length<=62;rw[pS];decide) (by
  rw[jT rfl,if_neg]
  unfold ju
  rw[nm1]
  show ¬(decide ((0:Int)=0) && decide (sA.toList=sB.toList))=true
  rw[zQ (show ¬sA.toList=sB.toList from λh=>by
   rw[Lib.toList_data,Lib.toList_data]at h
   exact absurd h (by decide))]
  simp) (by rw[hsp1];omega) (by rw[hsp1];omega)) ?_⟩
 rintro _ H3 ⟨w2,s2,y2,p2,q2,rfl,L3,M3,M4,hsp2,_,_,S3,n3,f3⟩
 rw[show ByteArray.mk #[98]=sB from rfl,pS]at M3
 have g3:=f3.get (by
  intro h
  rcases List.mem_append.1 h with h | h
  ·exact hbk h
  ·exact qi S2 g2 h) g2
 have tw1':cE y2.sp.mem w1 4 0 [s1]:=by rw[hsp2];exact(tw1.keep L2.n64 M3.made.keep).keep n3 M4.made.keep
 have ts1':cE y2.sp.mem s1 2 0 [97]:=by rw[hsp2];exact(ts1.keep L2.n64 M3.made.keep).keep n3 M4.made.keep
 have nm1':=nF tw1' ts1'
 rw[rn]at nm1'
 have hne:w1≠w2:=λh=>by
  have:=M4.made.sep n3 (tw1.keep L2.n64 M3.made.keep) 0 0 (by omega) (by omega)
  rw[h]at this;exact this rfl
 refine⟨_,_,rfl,_,ptr g3,HC.mono (k8 (w:=w1) L3 S3 (by simp) na (va _) (by show(aX sA).length<=62;rw[nI];decide) (by
  show fi y2.sp.mem ([w1]++[w2]) sA=some w1
  unfold fi
  rw[List.cons_append,List.find?_cons_of_pos]
  unfold ju
  rw[nm1']
  simp)) ?_⟩
 rintro _ H4 ⟨rfl,e4⟩
 refine⟨_,_,rfl,?_⟩
 rw[if_pos rfl,if_pos rfl,if_pos rfl,if_pos rfl,if_neg hne]
 have L4:=L3.grow e4
 obtain⟨B,c,e,_⟩:=S3
 refine⟨_,ptr (e4.get g3),_,rfl,B,2,c,?_,?_⟩
 ·rw[show(Addr.mk k.h 0 none).add 1=⟨k.h,1,none⟩from rfl,L4.at'.syAt,e];rfl
 exact hR _ _ ⟨rfl,L4.ext⟩


theorem pu{H:zV}{x n:Int}(hn:0<n/\n<=1000000):bW.C x n H (λv H'=>v=.int .i64 (atR x n)/\H'=H):=by
  refine HC.via λR hR=>bW.link ?_
  unfold bW.pt zY
  have h1: -n<Int.tmod x n:=by have:=Int.lt_tmod_of_pos x hn.1;omega
  have h2:Int.tmod x n<n:=Int.tmod_lt_of_pos _ hn.1
  rw[w64 (n:=Int.tmod x n+n) (by omega)]
  exact⟨by omega,by omega,hR _ _ ⟨rfl,rfl⟩⟩
def nJ:ByteArray:=ByteArray.mk #[]
set_option maxRecDepth 100000 in
theorem rq{H:zV}:bF.C H (λv H'=> ∃(P:Nat) (b:Blk) (x:Hp) (G:Int->Prop),v=.pointer (some ⟨P,0,none⟩)/\SPl 100 H H' b x G (λ_=>none) P (List.replicate 8 20) (List.replicate 8 nJ) []):=by
  refine HC.via λR hR=>bF.link ?_
  unfold bF.pt zY
  refine HC.mono (mM (limit:=100) ⟨by decide,by decide⟩) ?_
  rintro _ H1 (⟨hc,rfl,e1⟩ | ⟨hc,b,x,rfl,V1,hx,e1,hb1⟩)
  · exact absurd ⟨by decide,by decide⟩ hc
  refine⟨_,_,rfl,?_⟩
  rw[if_pos rfl,onPtr_some]
  intro P H2 hP hH2
  have e2:Ext H1 H2:=Ext.push' hH2
  have g2:=aL hP hH2
  have hlim:(100:Int).toNat=100:=rfl
  rw[hlim]at hx
  have S1:HS (J3 100) H H1 b x (λv=>Good (Mem.fresh 100) (λ_=>0) v) (λ_=>none) (λ_=>none):=⟨e1,V1,by rw[hx];exact rh (by decide) (by decide),⟨λ_ _ _ h=>(by cases h),λ_ _ _ h=>(by cases h),λ_ _ _ _ _ _ h=>(by cases h)⟩,λ_ _ h=>(by cases h),λ_ _ h=>(by cases h),hb1⟩
  have hblt:=S1.blt
  have z1:=e1.size
  have hPb:P ∉ b.all:=λh=>by have:=hblt P h;omega
  have pl:eJ H2 P b (List.replicate 8 0) (List.replicate 8 nJ):=⟨g2.trans rfl,by simp,by simp⟩
  refine⟨λi A=> ∃k:Nat,i=k/\k<=8/\eJ A P b (List.replicate k 20++List.replicate (8-k) 0) (List.replicate 8 nJ)/\Fr [P] H2 A,λi _=>(8-i).toNat,⟨0,rfl,by omega,pl,Fr.refl _ _⟩,?_⟩
  rintro _ A ⟨k,rfl,hk,pA,fA⟩
  by_cases hlt:(k:Int)<8
  · rw[if_pos hlt]
    have hl:=pA.len
    obtain⟨hcp,hs⟩:=pA.setH (i:=k) (by omega) 20
    rw[show Int.toNat (k:Int)=k by omega]
    refine⟨⟨by omega,hlt⟩,hcp,λA2 hA2=>?_⟩
    obtain⟨p2,f2⟩:=hs A2 hA2
    have hset:(List.replicate k (20:Int)++List.replicate (8-k) 0).set k 20=List.replicate (k+1) 20++List.replicate (8-(k+1)) 0:=by
      rw[List.set_append,if_neg (by simp),List.length_replicate,Nat.sub_self,show 8-k=(8-(k+1))+1 by omega,List.replicate_succ,List.set_cons_zero,List.replicate_succ',List.append_assoc];rfl
    rw[hset]at p2
    have hw:IntKind.wrap .i64 ((k:Int)+1)=((k+1:Nat):Int):=by rw[w64 (n:=(k:Int)+1) (by omega)];omega
    rw[hw]
    exact⟨⟨k+1,rfl,by omega,p2,fA.trans f2⟩,by show((8:Int)-((k+1:Nat):Int)).toNat< ((8:Int)-(k:Int)).toNat;omega⟩
  rw[if_neg hlt]
  obtain rfl:k=8:=by omega
  rw[show List.replicate (8-8) (0:Int)=[]from rfl,List.append_nil]at pA
  have SA:=(S1.ext e2).keep fA (λj hj=>by simp at hj;omega) (λj hj=>by simp at hj;rw[hj];exact hPb)
  have hsy:x.sy=.slice none 0 0:=by rw[hx]
  refine hR _ _ ⟨P,b,x,_,rfl,SA,SyAt.nil hsy,λe h=>(by cases h),List.nodup_nil,pA,λi h1 h2=> .inl ⟨?_,?_⟩,by rw[hx],hPb,?_,by omega⟩
  · rw[List.getElem_replicate];rfl
  · rw[List.getElem_replicate]
  · rw[hsy];simp[syB]
section
variable {c:Int} {H0 A A':zV} {b:Blk} {x:Hp} {G:Int->Prop} {th:TF} {P:Nat} {held:List Int} {names:List ByteArray} {Ls:List SyE}
theorem pv(k:Nat)(a:Addr)(n:Nat):ptrs k a n++[.pointer (some (a.add (n*1)))]=ptrs k a (n+1):=by
  unfold ptrs
  rw[List.range_succ,List.map_append,List.append_assoc];rfl
set_option maxRecDepth 100000 in
theorem kY{Q:zW->Nat->Nat->zV->Prop}(S:SPl c H0 A b x G th P held names Ls)(hQ: ∀(B:zW) (cc:Nat) (A':zV),Ext A A'->db A' B (ptrs 0 ((Addr.mk P 0 none).add 1) 8)->(∀j∈blks B,A.size<=j/\j<A'.size)->Q B 8 cc A'):
    ∃(I:zW->Nat->Nat->zv) (m:zW->Nat->Nat->Int->zV->Nat),I none 0 0 0 A/\ ∀(rootsB:zW) (rootsN:Nat) (rootsC:Nat) (i:Int) (H6:zV),I rootsB rootsN rootsC i H6->
    if i<8 then(
     ((0:Int)<=i/\i< (8:Int))/\
     ∀(b_2:Nat) (H7:zV),b_2=H6.size->H7=H6.push (.cells #[.pointer (some (((Addr.mk P 0 none).add 1).add (Int.toNat i*1)))] 31 (0,0))->
     dw 1 31 8 [.pointer none] rootsB rootsN rootsC (some (Addr.mk b_2 0 none)) 1 H7 (λap apC H8=>
      (I ap (rootsN+1) apC (IntKind.wrap .i64 (i+1)) H8/\m ap (rootsN+1) apC (IntKind.wrap .i64 (i+1)) H8<m rootsB rootsN rootsC i H6)))
    else Q rootsB rootsN rootsC H6:=by
  refine⟨λB n cc i A'=>(0<=i/\i<=8)/\n=i.toNat/\Ext A A'/\Own A' 31 1 B i.toNat cc (ptrs 0 ((Addr.mk P 0 none).add 1) i.toNat)/\(∀j∈blks B,A.size<=j),λ_ _ _ i _=>(8-i).toNat,
    ⟨⟨by omega,by omega⟩,rfl,Ext.refl _,gJ,by simp⟩,?_⟩
  rintro pB n pc i A2 ⟨hi,rfl,eA,ho,hb⟩
  by_cases hlt:i<8
  · rw[if_pos hlt]
    refine⟨⟨hi.1,hlt⟩,λb2 H3 hb2 hH3=>?_⟩
    have e3:Ext A2 H3:=Ext.push' hH3
    have hd:((8:Int)-(i+1)).toNat< ((8:Int)-i).toNat:=by omega
    rw[w64 (n:=i+1) (by omega)]
    refine eh (ys:=[.pointer (some (((Addr.mk P 0 none).add 1).add (Int.toNat i*1)))]) (ho.ext e3) (dH (aL hb2 hH3) _ 0 0 (λj hj=>by
      simp only[List.length_cons,List.length_nil]at hj
      obtain rfl:j=0:=by omega
      rfl)) rfl rfl rfl (by omega) ?_
    intro B' c' H4 ho4 f4 hn4
    have z3:=e3.size
    have zA:=eA.size
    rw[pv,show i.toNat+1=(i+1).toNat by omega]at ho4
    refine⟨⟨⟨by omega,by omega⟩,by omega,(eA.trans e3).fr_trans f4 hb,?_,λj hj=>?_⟩,hd⟩
    · exact ho4
    · rcases hn4 j hj with r | r
      · exact hb j r
      · omega
  rw[if_neg hlt]
  have hi8:i.toNat=8:=by omega
  rw[hi8]at ho⊢
  exact hQ pB pc A2 eA ho.src (λj hj=>⟨hb j hj,ho.lt j hj⟩)
theorem rt(S:SPl c H0 A b x G th P held names Ls){g:Int}{pB:zW}{pc:Nat}(hg:0<=g/\g<4)(hc:c<1000000000)(hl:Ls.length<=100000)(hp:db A pB (ptrs 0 ((Addr.mk P 0 none).add 1) 8))(hpb: ∀j∈blks pB,j ∉ b.all/\j≠P/\j<A.size):
    ei.C (some ⟨b.h,0,none⟩) g g pB 8 pc A (λv A'=>(v=.int .i64 2/\Ext A A')\/(v=.int .i64 0/\ ∃x' G' th' held' Ls',SPl (c+1024) H0 A' b x' G' th' P held' names Ls'/\Ls'.length<=Ls.length/\(g=3-> ∀e∈Ls',e.w∈held'))):=by
  obtain⟨⟨sz,I,hcf,hG⟩,hgen⟩:=S.hs.j
  obtain⟨-,hpA,-⟩:=S.hs.view.inv
  obtain⟨B,cc,hsy,ho,hB,hw⟩:=S.sy
  have hh:=S.play.len
  have hgood: ∀w∈held,aJ w/\Good x.sp.mem sz w:=λw hw=>by
    obtain⟨i,hi,rfl⟩:=List.getElem_of_mem hw
    rcases S.hold i hi (by have:=S.play.lenN;omega)with⟨_,q⟩ | ⟨e,q1,_,q2⟩
    · rw[q];exact⟨by decide,⟨by decide,λh=>absurd h (by decide)⟩⟩
    · rw[<-q2]
      have h1:=(S.ent e q1).1
      exact⟨(S.hs.pic.ths _ _ _ h1).word,(hG _).1 (S.hs.gt _ _ h1)⟩
  have hsw: ∀w∈Ls.map SyE.w,aJ w/\Good x.sp.mem sz w:=λw hw=>by
    obtain⟨e,q1,rfl⟩:=List.mem_map.1 hw
    have h1:=(S.ent e q1).1
    exact⟨(S.hs.pic.ths _ _ _ h1).word,(hG _).1 (S.hs.gt _ _ h1)⟩
  have hPB:P ∉ blks B:=by have:=S.out.2.1;rw[hsy]at this;exact this
  refine HC.mono (nE (Cel.sy P b names) (k:=0) (pC:=pc) hpA I (by omega) S.en hsy ho (λj hj=>⟨(hB j hj).1,λh=>by simp at h;exact hPB (h▸hj)⟩) hsw (by simp;omega) ⟨by omega,by omega⟩ ⟨by omega,by omega⟩ S.play (λj hj=>by simp at hj;rw[hj];exact S.out.1) (by rw[hh];exact hp) (by rw[hh]) (λj hj=>⟨(hpb j hj).1,λh=>(hpb j hj).2.1 (by simpa using h),(hpb j hj).2.2⟩) hgood (by omega)) ?_
  rintro v A' ⟨hno,hyes⟩
  by_cases hst:fy x.sp g g 1=0
  · obtain⟨rfl,young,fw,al,sz',tr,s3,s4,s5,Wk⟩:=hyes hst
    obtain⟨x',G',th',S'⟩:=S.collected hcf hG (by omega) Wk
    refine .inr ⟨rfl,x',G',th',_,_,S',?_,λh3 e he=>?_⟩
    · rw[List.length_map];exact List.length_filter_le _ _
    · subst h3
      obtain⟨e0,he0,rfl⟩:=List.mem_map.1 he
      obtain⟨q1,q2⟩:=List.mem_filter.1 he0
      exact List.mem_map_of_mem (S.gone hG Wk.col q1 q2)
  · obtain⟨rfl,e5⟩:=hno hst
    have h2:fy x.sp g g 1=2:=by
      unfold fy at hst⊢
      rw[if_neg (by omega)]at hst⊢
      by_cases q:x.sp.mem.free-2*x.sp.mem.nyoung g-8<1
      · rw[if_pos q]
      · rw[if_neg q]at hst;exact absurd rfl hst
    exact .inl ⟨by rw[h2],e5⟩
theorem SPl.put(S:SPl c H0 A b x G th P held names Ls){i:Nat}(hi:i<8){w:Int}{nm:ByteArray}(hw:(nm.size=0/\w=20)\/ ∃e∈Ls,e.nm=nm/\e.w=w)(pl:eJ A' P b (held.set i w) (names.set i nm))(fr:Fr [P] A A'):SPl c H0 A' b x G th P (held.set i w) (names.set i nm) Ls:=by
  obtain⟨o1,o2,o3⟩:=S.out
  refine⟨S.hs.keep fr (λj hj=>by simp at hj;omega) (λj hj=>by simp at hj;rw[hj];exact o1),?_,S.ent,S.nod,pl,λj h1 h2=>?_,S.en,S.out⟩
  · obtain⟨B,cc,h1,h2,h3,h4⟩:=S.sy
    refine⟨B,cc,h1,h2.keep fr (λj hj h=>?_),h3,h4⟩
    simp at h
    rw[h1]at o2
    exact o2 (h▸hj)
  · rw[List.length_set]at h1 h2
    rw[List.getElem_set,List.getElem_set]
    by_cases q:i=j
    · rw[if_pos q,if_pos q];exact hw
    · rw[if_neg q,if_neg q];exact S.hold j h1 h2
end

section
variable {c:Int} {H0 A A':zV} {b:Blk} {x:Hp} {G:Int->Prop} {th:TF} {P:Nat} {held:List Int} {names:List ByteArray} {Ls:List SyE}
theorem qk(s:ByteArray):fo s=0\/fo s=1\/fo s=2:=by
  unfold fo
  by_cases h1:Lib.validD s.data.toList=false\/s.size=0
  · rw[if_pos h1];omega
  rw[if_neg h1]
  by_cases h2:62< (aX s).length
  · rw[if_pos h2];omega
  · rw[if_neg h2];omega
theorem SPl.interned{x':Hp}{G':Int->Prop}{name:ByteArray}{w s:Int}(S:SPl c H0 A b x G th P held names Ls)(I:ou (J3 c) H0 A A' b x x' G G' (λ_=>none) th (Ls.map SyE.w) name w s)(hg:fo name=0)(hno: ∀e∈Ls,e.nm≠name):SPl c H0 A' b x' G' ((th.upd s (2,aX name)).upd w (4,[s])) P held names (Ls++[⟨w,s,name⟩]):=by
  obtain⟨o1,o2,o3⟩:=S.out
  have hPn:P ∉ b.all++syB x.sy:=λh=>by
    rcases List.mem_append.1 h with h | h
    · exact o1 h
    · exact o2 h
  have hP:=bB S.play.cell
  refine⟨I.hs,by rw[List.map_append];exact I.sy,λe he=>?_,?_,S.play.keep I.fr hPn,λi h1 h2=>?_,I.en.trans S.en,⟨o1,λh=>?_,o3⟩⟩
  · rcases List.mem_append.1 he with h | h
    · obtain⟨r1,r2,r3⟩:=S.ent e h
      have n1:e.w≠w:=λq=>by rw[q,I.fw]at r1;cases r1
      have n2:e.w≠s:=λq=>by rw[q,I.fs]at r1;cases r1
      have n3:e.s≠w:=λq=>by rw[q,I.fw]at r2;cases r2
      have n4:e.s≠s:=λq=>by rw[q,I.fs]at r2;cases r2
      exact⟨by rw[TF.upd_ne _ _ n1,TF.upd_ne _ _ n2];exact r1,by rw[TF.upd_ne _ _ n3,TF.upd_ne _ _ n4];exact r2,r3⟩
    · simp at h
      subst h
      exact⟨TF.upd_at _ _ _,by rw[TF.upd_ne _ _ I.ne,TF.upd_at],hg⟩
  · rw[List.map_append,List.nodup_append]
    refine⟨S.nod,by simp,λa ha d hd=>?_⟩
    obtain⟨e,he,rfl⟩:=List.mem_map.1 ha
    simp at hd
    rw[hd];exact hno e he
  · rcases S.hold i h1 h2 with q | ⟨e,q1,q2⟩
    · exact .inl q
    · exact .inr ⟨e,List.mem_append_left _ q1,q2⟩
  · rcases I.blk P h with h | h
    · exact o2 h
    · omega
theorem SPl.fullS{x':Hp}{G':Int->Prop}(S:SPl c H0 A b x G th P held names Ls)(h:HS (J3 c) H0 A' b x' G' (λ_=>none) th)(h1:x'.sy=x.sy)(h2:x'.en=x.en)(fr:Fr [b.sp,b.m,b.s] A A'):SPl c H0 A' b x' G' th P held names Ls:=by
  obtain⟨o1,o2,o3⟩:=S.out
  have sub: ∀j∈[b.sp,b.m,b.s],j∈b.all:=λj hj=>by simp at hj;simp[Blk.all];omega
  exact⟨h,S.sy.keep h1 fr (λj hj=> .inl (sub j hj)),S.ent,S.nod,S.play.keep fr (λh=>o1 (sub _ h)),S.hold,h2.trans S.en,⟨o1,by rw[h1];exact o2,o3⟩⟩
set_option maxRecDepth 100000 in
set_option maxHeartbeats 1000000 in
theorem rW(S:SPl c H0 A b x G th P held names Ls)(T8:kn H0)(hc:c<1000000000)(hl:Ls.length<=90000){what at' gen:Int}{name:ByteArray}(hs:name.size<=1000):
    bI.C (some ⟨P,0,none⟩) what at' gen name A (λv A'=>v=.bool true/\ ∃x' G' th' held' names' Ls',SPl (c+1024) H0 A' b x' G' th' P held' names' Ls'/\Ls'.length<=Ls.length+1):=by
  refine HC.via λR hR=>bI.link ?_
  unfold bI.pt zY
  intro b0 H1 hb0 hH1
  have e1:Ext A H1:=Ext.push' hH1
  have g1:=aL hb0 hH1
  refine⟨at',by rw[gq g1];rfl,?_⟩
  refine HC.mono (pu (x:=at') (n:=8) (by decide)) ?_
  rintro _ H2 ⟨rfl,rfl⟩
  refine⟨_,rfl,what,by rw[aT g1];rfl,?_⟩
  refine HC.mono (pu (x:=what) (n:=4) (by decide)) ?_
  rintro _ H3 ⟨rfl,rfl⟩
  refine⟨_,rfl,?_⟩
  have hk:=pQ (x:=at') (n:=8) (by decide)
  have S3:=S.ext e1
  have hh:=S3.play.len
  have hn:=S3.play.lenN
  have z1:=e1.size
  have hblt:=S.hs.blt
  have hP:=bB S.play.cell
  obtain⟨o1,o2,o3⟩:=S.out
  by_cases h2:atR what 4=2
  · rw[if_pos h2]
    obtain⟨hcp,hs1⟩:=S3.play.setH (i:=(atR at' 8).toNat) (by omega) 20
    refine⟨_,rfl,hk,hcp,λH4 hH4=>?_⟩
    obtain⟨p4,f4⟩:=hs1 H4 hH4
    obtain⟨hcp5,hs5⟩:=p4.setN (i:=(atR at' 8).toNat) (by omega) nJ
    refine⟨hk,hcp5,λH5 hH5=>?_⟩
    obtain⟨p5,f5⟩:=hs5 H5 hH5
    exact hR _ _ ⟨rfl,x,G,th,_,_,Ls,(S3.put (by omega) (.inl ⟨rfl,rfl⟩) p5 (f4.trans f5)).le (by omega),by omega⟩
  rw[if_neg h2]
  by_cases h3:atR what 4=3
  · rw[if_pos h3]
    obtain⟨I,m,h0,hI⟩:=kY (Q:=λrB rN rC A6=> ∃x_6:Int,hat A6 ((Addr.mk b0 0 none).add 2)=some (.int .i64 x_6)/\
      bW.C x_6 4 A6 (λv_3 H9=> ∃x_7:Int,v_3=.int .i64 x_7/\
       ∃xA_3:Addr,(some ⟨P,0,none⟩:zW)=some xA_3/\
       ∃x_8:zW,hat H9 xA_3=some (.pointer x_8)/\
       ei.C x_8 x_7 x_7 rB rN rC H9 (λv_4 H10=> ∃x_9:Int,v_4=.int .i64 x_9/\
        R (.bool ((x_9==0) || (x_9==2))) H10))) S3 (λpB pc A6 eA hp hb=>by
      refine⟨gen,by rw[gq (eA.get g1)];rfl,?_⟩
      refine HC.mono (pu (x:=gen) (n:=4) (by decide)) ?_
      rintro _ H9 ⟨rfl,rfl⟩
      have hg:=pQ (x:=gen) (n:=4) (by decide)
      have S6:=S3.ext eA
      refine⟨_,rfl,_,rfl,_,S6.play.heap,?_⟩
      refine HC.mono (rt S6 hg hc (by omega) hp (λj hj=>⟨λh=>by have:=hblt j h;have:=hb j hj;omega,by have:=hb j hj;omega,(hb j hj).2⟩)) ?_
      rintro v A' (⟨rfl,e⟩ | ⟨rfl,x',G',th',held',Ls',S',hl',_⟩)
      · exact⟨_,rfl,hR _ _ ⟨rfl,x,G,th,held,names,Ls,(S6.ext e).le (by omega),by omega⟩⟩
      · exact⟨_,rfl,hR _ _ ⟨rfl,x',G',th',held',names,Ls',S',by omega⟩⟩)
    refine⟨I,m,h0,λrB rN rC i H6 hi=>?_⟩
    have:=hI rB rN rC i H6 hi
    by_cases hlt:i<8
    · rw[if_pos hlt]at this⊢
      exact⟨_,rfl,this⟩
    · rw[if_neg hlt]at this⊢
      exact this
  rw[if_neg h3]
  refine⟨_,rfl,_,S3.play.heap,name,by rw[gq g1];rfl,?_⟩
  have e03:=S3.hs.e
  refine HC.mono (rg (tc (by omega)) S3.hs S3.sy (by simp;omega) (T8.ext e03) (by omega)) ?_
  rintro v A4 hcase
  have hb0n:b0 ∉ b.all++syB x.sy:=λh=>by
    have hb0':b0=A.size:=hb0
    rcases List.mem_append.1 h with h | h
    · have:=hblt b0 h;omega
    · obtain⟨B,cc,q1,q2,_⟩:=S.sy
      rw[q1]at h
      have:=q2.lt b0 h;omega
  have sub: ∀j∈[b.sp,b.m,b.s],j∈b.all:=λj hj=>by simp at hj;simp[Blk.all];omega
  have good: ∀{A5:zV} {ra rb:Int},Ext H0 A5->A5[b0]?=some (.cells #[.int .i64 what,.int .i64 at',.int .i64 gen,.string name] 29 (0,0))->(∀A6,Ext A5 A6->(fo name=1->ra=0/\rb=6)/\(fo name=2->ra=0/\rb=1)/\(fo name=0->rb=0\/(rb=2/\ra=0)))->
      (∀A6,Ext A5 A6->(fo name≠0\/rb=2)->R (.bool true) A6)->
      (∀A6,Ext A5 A6->fo name=0->rb=0->(((0:Int)<=atR at' 8/\atR at' 8< (8:Int))/\
      (aI A6 (((Addr.mk P 0 none).add 1).add (Int.toNat (atR at' 8)*1)) 0 1)/\ ∀H13:zV,H13=aO A6 (((Addr.mk P 0 none).add 1).add (Int.toNat (atR at' 8)*1)) [.int .u64 ra] 0->
      ∃x_14:ByteArray,hat H13 ((Addr.mk b0 0 none).add 3)=some (.string x_14)/\
      ((0:Int)<=atR at' 8/\atR at' 8< (8:Int))/\
      (aI H13 (((Addr.mk P 0 none).add 9).add (Int.toNat (atR at' 8)*1)) 0 1)/\ ∀H14:zV,H14=aO H13 (((Addr.mk P 0 none).add 9).add (Int.toNat (atR at' 8)*1)) [.string x_14] 0->
      R (.bool true) H14))->
      ∃x_12:ByteArray,hat A5 ((Addr.mk b0 0 none).add 3)=some (.string x_12)/\
    bY.C x_12 A5 (λv_6 H12=> ∃x_13:Int,v_6=.int .i64 x_13/\
     if x_13=1 then(
      R (.bool ((ra==0) && (rb==6))) H12)
     else
     if x_13=2 then(
      R (.bool ((ra==0) && (rb==1))) H12)
     else
     if rb=0 then(
      ((0:Int)<=atR at' 8/\atR at' 8< (8:Int))/\
      (aI H12 (((Addr.mk P 0 none).add 1).add (Int.toNat (atR at' 8)*1)) 0 1)/\ ∀H13:zV,H13=aO H12 (((Addr.mk P 0 none).add 1).add (Int.toNat (atR at' 8)*1)) [.int .u64 ra] 0->
      ∃x_14:ByteArray,hat H13 ((Addr.mk b0 0 none).add 3)=some (.string x_14)/\
      ((0:Int)<=atR at' 8/\atR at' 8< (8:Int))/\
      (aI H13 (((Addr.mk P 0 none).add 9).add (Int.toNat (atR at' 8)*1)) 0 1)/\ ∀H14:zV,H14=aO H13 (((Addr.mk P 0 none).add 9).add (Int.toNat (atR at' 8)*1)) [.string x_14] 0->
      R (.bool true) H14)
     else
     R (.bool ((rb==2) && (ra==0))) H12):=λ{A5 ra rb} e5 g5 hq hstop hset=>by
    refine⟨name,by rw[gq g5];rfl,?_⟩
    refine HC.mono (sR (by omega)) ?_
    rintro _ A6 ⟨rfl,e6⟩
    obtain⟨q1,q2,q3⟩:=hq A6 e6
    refine⟨_,rfl,?_⟩
    by_cases k1:fo name=1
    · rw[if_pos k1]
      obtain⟨rfl,rfl⟩:=q1 k1
      exact hstop A6 e6 (.inl (by omega))
    rw[if_neg k1]
    by_cases k2:fo name=2
    · rw[if_pos k2]
      obtain⟨rfl,rfl⟩:=q2 k2
      exact hstop A6 e6 (.inl (by omega))
    rw[if_neg k2]
    have k0:fo name=0:=by rcases qk name with q | q | q<;>omega
    by_cases hr:rb=0
    · rw[if_pos hr];exact hset A6 e6 k0 hr
    · rw[if_neg hr]
      obtain⟨r2,r0⟩:=(q3 k0).resolve_left hr
      rw[r2,r0]
      exact hstop A6 e6 (.inr r2)
  have setIt: ∀{A5:zV} {x':Hp} {G':Int->Prop} {th':TF} {Ls':List SyE} {e:SyE},SPl c H0 A5 b x' G' th' P held names Ls'->Ls'.length<=Ls.length+1->e∈Ls'->e.nm=name->A5[b0]?=some (.cells #[.int .i64 what,.int .i64 at',.int .i64 gen,.string name] 29 (0,0))->b0≠P->
      ((0:Int)<=atR at' 8/\atR at' 8< (8:Int))/\
      (aI A5 (((Addr.mk P 0 none).add 1).add (Int.toNat (atR at' 8)*1)) 0 1)/\ ∀H13:zV,H13=aO A5 (((Addr.mk P 0 none).add 1).add (Int.toNat (atR at' 8)*1)) [.int .u64 e.w] 0->
      ∃x_14:ByteArray,hat H13 ((Addr.mk b0 0 none).add 3)=some (.string x_14)/\
      ((0:Int)<=atR at' 8/\atR at' 8< (8:Int))/\
      (aI H13 (((Addr.mk P 0 none).add 9).add (Int.toNat (atR at' 8)*1)) 0 1)/\ ∀H14:zV,H14=aO H13 (((Addr.mk P 0 none).add 9).add (Int.toNat (atR at' 8)*1)) [.string x_14] 0->
      R (.bool true) H14:=λ{A5 x' G' th' Ls' e} S5 hl5 he hen g5 hne=>by
    obtain⟨hcp,hs1⟩:=S5.play.setH (i:=(atR at' 8).toNat) (by omega) e.w
    refine⟨hk,hcp,λH13 hH13=>?_⟩
    obtain⟨p4,f4⟩:=hs1 H13 hH13
    refine⟨name,by rw[gq (f4.get (by simp;exact hne) g5)];rfl,hk,?_⟩
    obtain⟨hcp5,hs5⟩:=p4.setN (i:=(atR at' 8).toNat) (by omega) name
    refine⟨hcp5,λH14 hH14=>?_⟩
    obtain⟨p5,f5⟩:=hs5 H14 hH14
    exact hR _ _ ⟨rfl,x',G',th',_,_,Ls',(S5.put (by omega) (.inr ⟨e,he,hen,rfl⟩) p5 (f4.trans f5)).le (by omega),hl5⟩
  have hne:b0≠P:=by omega
  rcases hcase with⟨k2,rfl,e4⟩ | ⟨k1,rfl,e4⟩ | ⟨k0,hc4⟩
  · refine⟨_,_,rfl,good (e03.trans e4) (e4.get g1) (λA6 _=>⟨λh=>by omega,λ_=>⟨rfl,rfl⟩,λh=>by omega⟩) (λA6 e6 _=>hR _ _ ⟨rfl,x,G,th,held,names,Ls,((S3.ext e4).ext e6).le (by omega),by omega⟩) (λ_ _ h=>by omega)⟩
  · refine⟨_,_,rfl,good (e03.trans e4) (e4.get g1) (λA6 _=>⟨λ_=>⟨rfl,rfl⟩,λh=>by omega,λh=>by omega⟩) (λA6 e6 _=>hR _ _ ⟨rfl,x,G,th,held,names,Ls,((S3.ext e4).ext e6).le (by omega),by omega⟩) (λ_ _ h=>by omega)⟩
  have hfind:=S3.find name
  rcases hc4 with⟨w,hf,rfl,e4⟩ | ⟨hf,⟨w,s,x',G',rfl,I⟩ | ⟨x',G',rfl,S4,hsy,hen,hep,gg,fr4⟩⟩
  · rcases hfind with⟨_,q⟩ | ⟨e,he,hen,q⟩
    · rw[q]at hf;cases hf
    obtain rfl:e.w=w:=Option.some.inj (q.symm.trans hf)
    exact⟨_,_,rfl,good (e03.trans e4) (e4.get g1) (λA6 _=>⟨λh=>by omega,λh=>by omega,λ_=> .inl rfl⟩) (λA6 e6 h=>by omega) (λA6 e6 _ _=>setIt ((S3.ext e4).ext e6) (by omega) he hen ((e4.trans e6).get g1) hne)⟩
  · have hno: ∀e∈Ls,e.nm≠name:=by
      rcases hfind with⟨q,_⟩ | ⟨e,he,hen,q⟩
      · exact q
      · rw[q]at hf;cases hf
    have S4:=S3.interned I k0 hno
    have g4:=I.fr.get hb0n g1
    exact⟨_,_,rfl,good S4.hs.e g4 (λA6 _=>⟨λh=>by omega,λh=>by omega,λ_=> .inl rfl⟩) (λA6 e6 h=>by omega) (λA6 e6 _ _=>setIt (e:=⟨w,s,name⟩) (S4.ext e6) (by simp) (by simp) rfl (e6.get g4) hne)⟩
  · have S5:=S3.fullS S4 hsy hen fr4
    have g4:=fr4.get (λh=>hb0n (List.mem_append_left _ (sub _ h))) g1
    exact⟨_,_,rfl,good S5.hs.e g4 (λA6 _=>⟨λh=>by omega,λh=>by omega,λ_=> .inr ⟨rfl,rfl⟩⟩) (λA6 e6 _=>hR _ _ ⟨rfl,x',G',th,held,names,Ls,(S5.ext e6).le (by omega),by omega⟩) (λA6 e6 _ h=>by omega)⟩
end
open Go.ChangeShapes Go.WideShapes

theorem rX{H:zV}{l:Sl jg}(Al:SlOK 4 nG maxLen H l):cG.C l.p l.n l.c H (λv H'=>H'=H/\(v=.bool true\/(v=.bool false/\l.n<=150/\ ∀(k:Nat) (h:k<l.xs.length),l.xs[k].name.size<=500))):=by
 refine HC.via λR hR=>cG.link ?_
 unfold cG.pt zY
 by_cases hn:(l.n:Int)>150
 ·rw[if_pos hn];exact hR _ _ ⟨rfl,.inl rfl⟩
 rw[if_neg hn]
 have hll:=Al.len
 refine⟨λi A=> ∃k:Nat,i=k/\k<=l.n/\A=H/\ ∀(j:Nat) (h:j<l.xs.length),j<k->l.xs[j].name.size<=500,λi _=>((l.n:Int)-i).toNat,⟨0,rfl,by omega,rfl,λj _ h=>by omega⟩,?_⟩
 rintro _ _ ⟨k,rfl,hk,rfl,hs⟩
 by_cases hlt:(k:Int)< (l.n:Int)
 case neg=>
  rw[if_neg hlt]
  exact hR _ _ ⟨rfl,.inr ⟨rfl,by omega,λj h=>hs j h (by omega)⟩⟩
 rw[if_pos hlt]
 obtain⟨a,ha,hrow⟩:=Al.row k (by omega)
 obtain⟨r1,r2,r3,r4,-⟩:=hrow
 refine⟨a,ha,⟨by omega,hlt⟩,_,by rw[show Int.toNat (k:Int)=k by omega];exact r4,?_⟩
 by_cases hb:(((l.xs[k]'(by omega)).name.size:Nat):Int)>500
 ·rw[if_pos hb];exact hR _ _ ⟨rfl,.inl rfl⟩
 rw[if_neg hb]
 have hw:IntKind.wrap .i64 ((k:Int)+1)=((k+1:Nat):Int):=by rw[w64 (n:=(k:Int)+1) (by omega)];omega
 rw[hw]
 refine⟨⟨k+1,rfl,by omega,rfl,λj h h2=>?_⟩,by show((l.n:Int)-((k+1:Nat):Int)).toNat< ((l.n:Int)-(k:Int)).toNat;omega⟩
 by_cases q:j=k
 ·subst q;omega
 ·exact hs j h (by omega)
section
variable {c:Int} {H0 A A':zV} {b:Blk} {x:Hp} {G:Int->Prop} {th:TF} {P:Nat} {held:List Int} {names:List ByteArray} {Ls:List SyE}
theorem SPl.Find_c(S:SPl c H0 A b x G th P held names Ls)(hl:Ls.length<=100000)(name:ByteArray):
  eS.C (some ⟨b.h,0,none⟩) name A (λv A'=>v=.tuple #[.int .u64 ((fi x.sp.mem (Ls.map SyE.w) name).getD 0),.bool (fi x.sp.mem (Ls.map SyE.w) name).isSome]/\Ext A A'):=by
 obtain⟨B,cc,e,o,hB,hw⟩:=S.sy
 obtain⟨-,hp2,-⟩:=S.hs.view.inv
 have h1:hat A ((Addr.mk b.h 0 none).add 1)=some (.slice B (Ls.map SyE.w).length cc):=by rw[show(Addr.mk b.h 0 none).add 1=⟨b.h,1,none⟩from rfl,hp2.syAt,e]
 have h2:(Ls.map SyE.w).length<=1000000:=by rw[List.length_map];omega
 have h3:mof (some (b,x))=x.sp.mem:=rfl
 have:=iG (name:=name) (syl:=Ls.map SyE.w) S.hs.view h1 rfl o.src h2 hw
 rw[h3]at this
 exact this
theorem SPl.syLen(S:SPl c H0 A b x G th P held names Ls): ∃B cc,hat A ((Addr.mk b.h 0 none).add 1)=some (.slice B Ls.length cc):=by
 obtain⟨B,cc,e,o,hB,hw⟩:=S.sy
 obtain⟨-,hp2,-⟩:=S.hs.view.inv
 exact⟨B,cc,by rw[show(Addr.mk b.h 0 none).add 1=⟨b.h,1,none⟩from rfl,hp2.syAt,e,List.length_map]⟩
theorem SPl.isSome(S:SPl c H0 A b x G th P held names Ls)(name:ByteArray):(fi x.sp.mem (Ls.map SyE.w) name).isSome=true ↔ ∃e∈Ls,e.nm=name:=by
 rcases S.find name with⟨h,q⟩ | ⟨e,he,hen,q⟩
 ·rw[q];exact⟨λh2=>(by cases h2),λ⟨e,he,hen⟩=>absurd hen (h e he)⟩
 ·rw[q];exact⟨λ_=>⟨e,he,hen⟩,λ_=>rfl⟩
set_option maxRecDepth 100000 in
set_option maxHeartbeats 1000000 in
theorem ru(S:SPl c H0 A b x G th P held names Ls)(hl:Ls.length<=100000):bM.C (some ⟨P,0,none⟩) A (λv A'=>v=.bool true/\Ext A A'):=by
 refine HC.via λR hR=>bM.link ?_
 unfold bM.pt zY
 have hh:=S.play.len
 have hn:=S.play.lenN
 refine⟨λi B=>(0<=i/\i<=8)/\Ext A B,λi _=>(8-i).toNat,⟨by omega,Ext.refl _⟩,?_⟩
 rintro i B ⟨hi,eB⟩
 by_cases hlt:i<8
 case neg=>rw[if_neg hlt];exact hR _ _ ⟨rfl,eB⟩
 rw[if_pos hlt]
 have hi8:(0:Int)<=i/\i< (8:Int):=⟨hi.1,hlt⟩
 have S1:=S.ext eB
 have hk:i.toNat<names.length:=by omega
 have hkh:i.toNat<held.length:=by omega
 have hd:((8:Int)-(i+1)).toNat< ((8:Int)-i).toNat:=by omega
 have hwr:IntKind.wrap .i64 (i+1)=i+1:=w64 (by omega)
 refine⟨_,rfl,hi8,names[i.toNat],S1.play.name hk,?_⟩
 by_cases h0:names[i.toNat].size=0
 ·rw[if_pos ((hZ _).2 h0),hwr];exact⟨⟨by omega,eB⟩,hd⟩
 rw[if_neg (λq=>h0 ((hZ _).1 q))]
 obtain⟨e,he,hen,hew⟩:=(S1.hold i.toNat hkh hk).resolve_left (λq=>h0 q.1)
 have hwe:aJ held[i.toNat]:=by rw[<-hew];exact(S1.hs.pic.ths _ _ _ (S1.ent e he).1).word
 have hnm:ie x.sp.mem held[i.toNat]=(names[i.toNat],0):=by rw[<-hew,S1.name he,hen]
 have hm:mof (some (b,x))=x.sp.mem:=rfl
 refine⟨_,S1.play.heap,hi8,held[i.toNat],S1.play.heldAt hkh,?_⟩
 refine HC.mono (kU S1.hs.view hwe) ?_
 rw[hm,hnm]
 rintro _ B2 ⟨rfl,e2⟩
 have S2:=S1.ext e2
 refine⟨_,_,rfl,_,S2.play.heap,hi8,names[i.toNat],S2.play.name hk,?_⟩
 refine HC.mono (S2.Find_c hl names[i.toNat]) ?_
 have hf:fi x.sp.mem (Ls.map SyE.w) names[i.toNat]=some held[i.toNat]:=by
  rcases S2.find names[i.toNat]with⟨q,_⟩ | ⟨e',he',hen',q⟩
  ·exact absurd hen (q e he)
  ·rw[q,S2.one he' he (hen'.trans hen.symm),hew]
 rw[hf]
 rintro _ B3 ⟨rfl,e3⟩
 have S3:=S2.ext e3
 refine⟨_,_,rfl,?_⟩
 rw[if_pos rfl]
 refine⟨hi8,names[i.toNat],S3.play.name hk,?_⟩
 rw[if_pos rfl,if_pos (by rfl)]
 refine⟨hi8,held[i.toNat],S3.play.heldAt hkh,?_⟩
 rw[if_pos (by rfl)]
 have eA3:=(eB.trans e2).trans e3
 refine⟨λk C=>(0<=k/\k<=i)/\Ext A C,λk _=>(i-k).toNat,⟨by omega,eA3⟩,?_⟩
 rintro k C ⟨hkk,eC⟩
 by_cases hlt2:k<i
 case neg=>rw[if_neg hlt2,hwr];exact⟨⟨by omega,eC⟩,hd⟩
 rw[if_pos hlt2]
 have hk8:(0:Int)<=k/\k< (8:Int):=⟨hkk.1,by omega⟩
 have S4:=S.ext eC
 have hj:k.toNat<names.length:=by omega
 have hjh:k.toNat<held.length:=by omega
 have hd2:(i-(k+1)).toNat< (i-k).toNat:=by omega
 have hwr2:IntKind.wrap .i64 (k+1)=k+1:=w64 (by omega)
 refine⟨hk8,names[k.toNat],S4.play.name hj,?_⟩
 by_cases h0':names[k.toNat].size=0
 ·rw[if_pos ((hZ _).2 h0'),hwr2];exact⟨⟨by omega,eC⟩,hd2⟩
 rw[if_neg (λq=>h0' ((hZ _).1 q))]
 obtain⟨e',he',hen',hew'⟩:=(S4.hold k.toNat hjh hj).resolve_left (λq=>h0' q.1)
 refine⟨hk8,names[k.toNat],S4.play.name hj,hi8,names[i.toNat],S4.play.name hk,hk8,held[k.toNat],S4.play.heldAt hjh,hi8,held[i.toNat],S4.play.heldAt hkh,?_⟩
 have hiff:names[k.toNat]=names[i.toNat] ↔ held[k.toNat]=held[i.toNat]:=by
  rw[<-hen',<-hen,<-hew',<-hew]
  exact⟨λq=>by rw[S4.one he' he q],λq=>by rw[S4.oneW he' he q]⟩
 have hbe:(names[k.toNat].toList==names[i.toNat].toList)=(held[k.toNat]==held[i.toNat]):=by
  by_cases q:names[k.toNat]=names[i.toNat]
  ·rw[beq_iff_eq.2 (jf.2 q),beq_iff_eq.2 (hiff.1 q)]
  ·rw[beq_eq_false_iff_ne.2 (λh=>q (jf.1 h)),beq_eq_false_iff_ne.2 (λh=>q (hiff.2 h))]
 rw[if_pos hbe,hwr2]
 exact⟨⟨by omega,eC⟩,hd2⟩
end
