/-
  Rounds of calls and collections (package morainelaw13). Proves nothing of any one statement.
-/
import Derived.Test.YtgnokbjknicahaaGreatCol
set_option linter.unusedVariables false
set_option linter.unusedSimpArgs false
namespace Go.Proofs.YtgnokbjknicahaaGreat
open Go

theorem kept13_c{H:zV}{keep i:Int}(hi:0<=i):morainelaw13_kept.C keep i H (λv H'=>(∃t:Bool,v=.bool t)/\H'=H):=by
  refine HC.via λR hR=>morainelaw13_kept.link ?_
  unfold morainelaw13_kept.pt
  have:=Int.tmod_nonneg 32 hi
  exact⟨this,hR _ _ ⟨⟨_,rfl⟩,rfl⟩⟩
theorem many13_c{H:zV}{s:Sl RoundOf}(A:SlOK 6 roundOfR maxLen H s):morainelaw13_many.C s.p s.n s.c H (λv H'=> ∃t:Bool,v=.bool t/\(t=false->s.n<=12)/\H'=H):=by
  refine HC.via λR hR=>morainelaw13_many.link ?_
  unfold morainelaw13_many.pt zY
  have hlen:=A.len
  by_cases h12:(s.n:Int)>12
  · rw[if_pos h12]
    exact hR _ _ ⟨true,rfl,λh=>(by cases h),rfl⟩
  rw[if_neg h12]
  have hM:maxLen=9223372036854775807:=by unfold maxLen;rfl
  refine⟨λnv i A'=>A'=H/\(0<=i/\i<=s.n),λ_ i _=>(s.n-i).toNat,⟨rfl,by omega,by omega⟩,?_⟩
  rintro nv i _ ⟨rfl,hi⟩
  by_cases hlt:i< (s.n:Int)
  case neg=>
    rw[if_neg hlt]
    exact hR _ _ ⟨_,rfl,λ_=>by omega,rfl⟩
  rw[if_pos hlt]
  have hiN:i.toNat<s.xs.length:=by omega
  obtain⟨la,hla,hrow⟩:=A.row i.toNat hiN
  have hok:RoundOf.OK maxLen _ s.xs[i.toNat]:=A.each _ (List.getElem_mem hiN)
  generalize s.xs[i.toNat]=r at*
  have hat0:=rowAt_hat hrow 0 (.slice r.acts.p r.acts.n r.acts.c) rfl
  have hat1:=rowAt_hat hrow 1 (.slice r.guard.p r.guard.n r.guard.c) rfl
  have hat2:=rowAt_hat hrow 2 (.slice r.symbols.p r.symbols.n r.symbols.c) rfl
  rw[Nat.zero_add,addr_add2,Nat.add_zero]at hat0
  rw[Nat.zero_add]at hat1 hat2
  have hacts:SlOK 8 actOfR maxLen _ r.acts:=hok.acts
  have halen:=hacts.len
  have hale:=hacts.le
  refine⟨la,hla,⟨hi.1,hlt⟩,_,_,_,hat1,⟨hi.1,hlt⟩,_,_,_,hat2,?_⟩
  refine⟨λnv2 k A'=>A'=_/\(0<=k/\k<=r.acts.n),λ_ k _=>(r.acts.n-k).toNat,⟨rfl,by omega,by omega⟩,?_⟩
  rintro nv2 k _ ⟨rfl,hk⟩
  refine⟨⟨hi.1,hlt⟩,_,_,_,hat0,?_⟩
  by_cases hc:k< (r.acts.n:Int)/\nv2<=400
  · rw[if_pos (by simpa using hc)]
    have hkN:k.toNat<r.acts.xs.length:=by omega
    obtain⟨ka,hka,hrk⟩:=hacts.row k.toNat hkN
    generalize r.acts.xs[k.toNat]=a at*
    have hat7:=rowAt_hat hrk 7 (.slice a.l.p a.l.n a.l.c) rfl
    rw[Nat.zero_add]at hat7
    have hd:((r.acts.n:Int)-(k+1)).toNat< ((r.acts.n:Int)-k).toNat:=by omega
    refine⟨⟨hi.1,hlt⟩,_,_,_,hat0,ka,hka,⟨hk.1,hc.1⟩,_,_,_,hat7,?_⟩
    rw[w64 (n:=k+1) (by omega)]
    exact⟨⟨rfl,by omega,by omega⟩,hd⟩
  · rw[if_neg (by simpa using hc)]
    have hd:((s.n:Int)-(i+1)).toNat< ((s.n:Int)-i).toNat:=by omega
    rw[w64 (n:=i+1) (by omega)]
    exact⟨⟨rfl,by omega,by omega⟩,hd⟩
theorem ptrs_snoc(k:Nat)(a:Addr)(n:Nat):ptrs k a n++[.pointer (some (a.add (n*1)))]=ptrs k a (n+1):=by
  unfold ptrs
  rw[List.range_succ,List.map_append,List.append_assoc];rfl
theorem pointers_c{H:zV}{lB:zW}{lN lC:Nat}(hB:0<lN-> ∃a,lB=some a)(hl:lN<=1000000000):
    morainelaw13_pointers.C lB lN lC H (λv H'=> ∃(B:zW) (c:Nat),v=.slice B (1+lN) c/\SrcAt H' B (ptrs 1 (lB.getD default) lN)/\(∀j∈blks B,H.size<=j/\j<H'.size)/\Ext H H'):=by
  refine HC.via λR hR=>morainelaw13_pointers.link ?_
  unfold morainelaw13_pointers.pt zY
  intro b1 H1 hb1 hH1
  have e1:Ext H H1:=Ext.push' hH1
  have g1:=push_get hb1 hH1
  have h0:Own H1 33 1 (some ⟨b1,0,none⟩) 1 1 (ptrs 1 (lB.getD default) 0):=⟨rfl,_,g1,rfl,Nat.le_refl _,rfl,λj hj=>by
    obtain rfl:j=0:=by omega
    rfl⟩
  refine⟨λB n c i A=>(0<=i/\i<=lN)/\n=1+i.toNat/\Ext H A/\Own A 33 1 B (1+i.toNat) c (ptrs 1 (lB.getD default) i.toNat)/\(∀j∈blks B,H.size<=j),λ_ _ _ i _=>(lN-i).toNat,
    ⟨⟨by omega,by omega⟩,rfl,e1,h0,λj hj=>by simp at hj;omega⟩,?_⟩
  rintro B n c i A ⟨hi,rfl,eA,ho,hb⟩
  by_cases hlt:i< (lN:Int)
  case neg=>
    rw[if_neg hlt]
    rw[show i.toNat=lN by omega]at ho⊢
    exact hR _ _ ⟨B,c,rfl,ho.src,λj hj=>⟨hb j hj,ho.lt j hj⟩,eA⟩
  rw[if_pos hlt]
  obtain⟨a,rfl⟩:=hB (by omega)
  refine⟨a,rfl,⟨hi.1,hlt⟩,λb2 H3 hb2 hH3=>?_⟩
  have e3:Ext A H3:=Ext.push' hH3
  have hd:((lN:Int)-(i+1)).toNat< ((lN:Int)-i).toNat:=by omega
  rw[w64 (n:=i+1) (by omega)]
  refine own_append (ys:=[.pointer (some (a.add (Int.toNat i*1)))]) (ho.ext e3) (rowAt_blk (push_get hb2 hH3) _ 0 0 (λj hj=>by
    simp only[List.length_cons,List.length_nil]at hj
    obtain rfl:j=0:=by omega
    rfl)) rfl rfl rfl (by omega) ?_
  intro B' c' H4 ho4 f4 hn4
  have z3:=e3.size
  have zA:=eA.size
  have hs:ptrs 1 ((some a).getD default) i.toNat++[.pointer (some (a.add (Int.toNat i*1)))]=ptrs 1 ((some a).getD default) (i+1).toNat:=by
    rw[show(i+1).toNat=i.toNat+1 by omega];exact ptrs_snoc 1 a i.toNat
  rw[hs]at ho4
  refine⟨⟨⟨by omega,by omega⟩,by omega,(eA.trans e3).fr_trans f4 hb,by rw[show(i+1).toNat=i.toNat+1 by omega]at ho4⊢;exact ho4,λj hj=>?_⟩,hd⟩
  rcases hn4 j hj with q | q
  · exact hb j q
  · omega
set_option maxRecDepth 100000 in
theorem roots13_c{H0 H:zV}{b:Blk}{x:Hp}{sz:Int->Nat}{mB:zW}{mC:Nat}{made:List Int}(r:RoundOf)(h:St H0 H b x sz mB mC made)(hml:made.length<=1000000000):
    morainelaw13_roots.C (some ⟨b.h,0,none⟩) r.acts.p r.acts.n r.acts.c r.guard.p r.guard.n r.guard.c r.symbols.p r.symbols.n r.symbols.c r.g r.target r.keep mB made.length mC H (λv H'=> ∃(rB:zW) (rC:Nat) (roots:List Int),
      v=.slice rB roots.length rC/\Ext H H'/\Own H' 24 1 rB roots.length rC (wvs roots)/\(∀j∈blks rB,H.size<=j)/\(∀w∈roots,w∈made)/\roots.length<=made.length):=by
  refine HC.via λR hR=>morainelaw13_roots.link ?_
  unfold morainelaw13_roots.pt zY
  intro b1 H1 hb1 hH1
  have e1:Ext H H1:=Ext.push' hH1
  have g1:=push_get hb1 hH1
  refine⟨λrB rN rC k A=>(0<=k/\k<=made.length)/\ ∃roots:List Int,rN=roots.length/\Ext H1 A/\Own A 24 1 rB roots.length rC (wvs roots)/\(∀j∈blks rB,H1.size<=j)/\(∀w∈roots,w∈made)/\(roots.length:Int)<=k,λ_ _ _ k _=>(made.length-k).toNat,
    ⟨⟨by omega,by omega⟩,[],rfl,Ext.refl _,own_nil,λj hj=>by simp at hj,λw hw=>by simp at hw,by simp⟩,?_⟩
  rintro rB rN rC k A ⟨hk,roots,rfl,eA1,ho,hbl,hin,hlen⟩
  have eA:=e1.trans eA1
  have z1:=e1.size
  by_cases hlt:k< (made.length:Int)
  case neg=>
    rw[if_neg hlt]
    exact hR _ _ ⟨rB,rC,roots,rfl,eA,ho,λj hj=>by have:=hbl j hj;omega,hin,by omega⟩
  rw[if_pos hlt]
  have hkN:k.toNat<made.length:=by omega
  have hmem:=List.getElem_mem hkN
  obtain⟨ma,hma,hatm⟩:=src_wv (h.own.src.ext eA) hkN
  obtain⟨-,hp,-⟩:=(h.view.ext eA).inv
  refine⟨_,rfl,_,hp.hPtr,ma,hma,⟨hk.1,hlt⟩,_,hatm,?_⟩
  generalize made[k.toNat]=w at*
  have hd:((made.length:Int)-(k+1)).toNat< ((made.length:Int)-k).toNat:=by omega
  rw[w64 (n:=k+1) (by omega)]
  refine HC.mono (card_Gen_c hp.cd (h.good w hmem).1) ?_
  rintro _ A1 ⟨rfl,e2⟩
  have gA:=(eA1.trans e2).get g1
  refine⟨_,_,rfl,r.keep,by rw[box_get gA 5];rfl,?_⟩
  refine HC.mono (kept13_c hk.1) ?_
  rintro _ A2 ⟨⟨t,rfl⟩,rfl⟩
  have e2':=eA1.trans e2
  have stay:(((0<=k+1/\k+1<=made.length)/\ ∃roots':List Int,roots.length=roots'.length/\Ext H1 A2/\Own A2 24 1 rB roots'.length rC (wvs roots')/\(∀j∈blks rB,H1.size<=j)/\(∀w∈roots',w∈made)/\(roots'.length:Int)<=k+1)/\((made.length:Int)-(k+1)).toNat< ((made.length:Int)-k).toNat):=
    ⟨⟨⟨by omega,by omega⟩,roots,rfl,e2',ho.ext e2,hbl,hin,by omega⟩,hd⟩
  have add: ∀(b_2:Nat) (H15:zV),b_2=A2.size->H15=A2.push (.cells #[.int .u64 w] 24)->appendK 1 24 8 [.int .u64 0] rB roots.length rC (some (Addr.mk b_2 0 none)) 1 H15 (λap apC H16=>
      (((0<=k+1/\k+1<=made.length)/\ ∃roots':List Int,roots.length+1=roots'.length/\Ext H1 H16/\Own H16 24 1 ap roots'.length apC (wvs roots')/\(∀j∈blks ap,H1.size<=j)/\(∀w∈roots',w∈made)/\(roots'.length:Int)<=k+1)/\((made.length:Int)-(k+1)).toNat< ((made.length:Int)-k).toNat)):=λb2 H15 hb2 hH15=>by
    have e5:Ext A2 H15:=Ext.push' hH15
    refine own_append (ys:=wvs [w]) ((ho.ext e2).ext e5) (rowAt_blk (push_get hb2 hH15) _ 0 0 (λj hj=>by
      simp only[wvs,List.map_cons,List.map_nil,List.length_cons,List.length_nil]at hj
      obtain rfl:j=0:=by omega
      rfl)) rfl (allOne_wvs _) rfl (by omega) ?_
    intro B' c' H6 ho6 f6 hn6
    have z5:=e5.size
    have z2:=e2'.size
    have hl2:(roots++[w]).length=roots.length+1:=by simp
    refine⟨⟨⟨by omega,by omega⟩,roots++[w],hl2.symm,(e2'.trans e5).fr_trans f6 hbl,by rw[hl2];simpa[wvs]using ho6,λj hj=>?_,λv hv=>?_,by rw[hl2];omega⟩,hd⟩
    · rcases hn6 j hj with q | q
      · exact hbl j q
      · omega
    · rcases List.mem_append.1 hv with q | q
      · exact hin v q
      · simp at q;rw[q];exact hmem
  refine⟨_,rfl,?_⟩
  have hat2:hat A2 (ma.add (k.toNat*1))=some (.int .u64 w):=e2.hat hatm
  by_cases ht:t=true
  · rw[if_pos ht]
    exact⟨⟨hk.1,hlt⟩,_,hat2,add⟩
  rw[if_neg ht]
  by_cases hg:(x.sp.mem.genOf w).2=true
  · rw[if_pos hg]
    refine⟨r.g,by rw[box_get gA 3];rfl,?_⟩
    by_cases hgg:(x.sp.mem.genOf w).1>r.g
    · rw[if_pos hgg]
      exact⟨⟨hk.1,hlt⟩,_,hat2,add⟩
    · rw[if_neg hgg];exact stay
  · rw[if_neg hg];exact stay

def Bare(x:Hp):Prop:=x.en=.slice none 0 0/\x.sy=.slice none 0 0
theorem Bare.keep{S:List Nat}{H H':zV}{b:Blk}{x x':Hp}(h:Bare x)(hp:HpAt H b x)(hp':HpAt H' b x')(f:Fr S H H')(hn:b.h ∉ S):Bare x':=by
  have h1:=f.get hn hp.h
  rw[hp'.h]at h1
  simp only[Option.some.injEq,Obj.cells.injEq,Array.mk.injEq,List.cons.injEq]at h1
  obtain⟨⟨_,h2,h3,_⟩,_⟩:=h1
  exact⟨h3.trans h.1,h2.trans h.2⟩
theorem news_len{H0 H:zV}{b:Blk}{x:Hp}{sz:Int->Nat}{mB:zW}{mC:Nat}{made news:List Int}(h:St H0 H b x sz mB mC made)(hn:news.Nodup)(hs: ∀w∈news,w∈made/\isTag w):news.length<=524288:=by
  refine Alls.len (m:=x.sp.mem) ⟨hn,λw hw=>?_⟩
  obtain⟨h1,h2⟩:=hs w hw
  obtain⟨g1,g2⟩:=h.good w h1
  exact⟨g1,by rw[h.inv.sound.size h.inv.ok.mem g1 g2 h2];have:=(g2.2 h2).1;omega⟩
set_option maxRecDepth 100000 in
theorem acts13_loop{Q:Addr->zW->Nat->Nat->zV->Prop}{H0 H9:zV}{b:Blk}{x:Hp}{sz:Int->Nat}{mB:zW}{mC mN:Nat}{made:List Int}{s:Sl RoundOf}{i:Int}{r:RoundOf}(A:SlOK 6 roundOfR maxLen H0 s)(hi:0<=i/\i<s.n)(hr:s.xs[i.toNat]?=some r)
    (h:St H0 H9 b x sz mB mC made) (hba:Bare x) (hcf:x.sp.cf<=100000) (hn:mN=made.length) (hml:made.length<=10000000)
    (hQ: ∀(la:Addr) (A:zV) (mB':zW) (mC':Nat) (made':List Int) (x':Hp) (sz':Int->Nat),s.p=some la->St H0 A b x' sz' mB' mC' made'->Bare x'->x'.sp.cf=x.sp.cf->made'.length<=made.length+524288->Q la mB' made'.length mC' A):
     ∃(I44:zW->Nat->Nat->zv) (m44:zW->Nat->Nat->Int->zV->Nat),I44 mB mN mC 0 H9/\ ∀(madeB_2:zW) (madeN_2:Nat) (madeC_2:Nat) (k:Int) (H4:zV),I44 madeB_2 madeN_2 madeC_2 k H4->
      ∃lBA:Addr,s.p=some lBA/\
      ((0:Int)<=i/\i< (s.n:Int))/\
      ∃xB:zW,∃xN:Nat,∃xC:Nat,hat H4 (lBA.add (Int.toNat i*6))=some (.slice xB xN xC)/\
      if k< (xN:Int)then(
       ((0:Int)<=i/\i< (s.n:Int))/\
       ∃xB_2:zW,∃xN_2:Nat,∃xC_2:Nat,hat H4 (lBA.add (Int.toNat i*6))=some (.slice xB_2 xN_2 xC_2)/\
       ∃xB2A:Addr,xB_2=some xB2A/\
       ((0:Int)<=k/\k< (xN_2:Int))/\
       ∃xDo:Int,∃xKind:Int,∃xN_3:Int,∃xXW:Int,∃xXOf:Int,∃xYW:Int,∃xYOf:Int,∃xLB:zW,∃xLN:Nat,∃xLC:Nat,RowAt H4 (xB2A.add (Int.toNat k*8)) 0 [.int .i64 xDo,.int .i64 xKind,.int .i64 xN_3,.int .u64 xXW,.int .i64 xXOf,.int .u64 xYW,.int .i64 xYOf,.slice xLB xLN xLC]/\
       morainelaw11_Made.C (some ⟨b.h,0,none⟩) xDo xKind xN_3 xXW xXOf xYW xYOf xLB xLN xLC madeB_2 madeN_2 madeC_2 H4 (λv_3 H5=> ∃xB_3:zW,∃xN_4:Nat,∃xC_3:Nat,v_3=.slice xB_3 xN_4 xC_3/\
        (I44 xB_3 xN_4 xC_3 (IntKind.wrap .i64 (k+1)) H5/\m44 xB_3 xN_4 xC_3 (IntKind.wrap .i64 (k+1)) H5<m44 madeB_2 madeN_2 madeC_2 k H4)))
      else
      Q lBA madeB_2 madeN_2 madeC_2 H4:=by
  have hM:maxLen=9223372036854775807:=by unfold maxLen;rfl
  have hlen:=A.len
  have hiN:i.toNat<s.xs.length:=by omega
  obtain⟨la,hla,hrow⟩:=A.row i.toNat hiN
  have hok:RoundOf.OK maxLen H0 s.xs[i.toNat]:=A.each _ (List.getElem_mem hiN)
  rw[List.getElem?_eq_getElem hiN]at hr
  have er:s.xs[i.toNat]=r:=Option.some.inj hr
  rw[er]at hrow hok
  have hA:SlOK 8 actOfR maxLen H0 r.acts:=hok.acts
  have halen:=hA.len
  have hale:=hA.le
  refine⟨λmB' mN' mC' k A=>(0<=k/\k<=r.acts.n)/\ ∃(made' news:List Int) (x':Hp) (sz':Int->Nat),mN'=made'.length/\St H0 A b x' sz' mB' mC' made'/\Bare x'/\x'.sp.cf=x.sp.cf/\made'=made++news/\news.Nodup/\(∀w∈news,isTag w),λ_ _ _ k _=>(r.acts.n-k).toNat,
    ⟨⟨by omega,by omega⟩,made,[],x,sz,hn,h,hba,rfl,by simp,List.nodup_nil,λw hw=>by simp at hw⟩,?_⟩
  rintro mB' mN' mC' k A' ⟨hk,made',news,x',sz',rfl,S,hba',ecf,hnw,hnd,htg⟩
  have hnl:=news_len S hnd (λw hw=>⟨by rw[hnw];exact List.mem_append_right _ hw,htg w hw⟩)
  have hml':made'.length<=made.length+524288:=by rw[hnw,List.length_append];omega
  have hat0:=rowAt_hat (S.e.rowAt hrow) 0 (.slice r.acts.p r.acts.n r.acts.c) rfl
  rw[Nat.zero_add,addr_add2,Nat.add_zero]at hat0
  refine⟨la,hla,hi,_,_,_,hat0,?_⟩
  by_cases hlt:k< (r.acts.n:Int)
  case neg=>
    rw[if_neg hlt]
    exact hQ la A' mB' mC' made' x' sz' hla S hba' ecf hml'
  rw[if_pos hlt]
  have hkN:k.toNat<r.acts.xs.length:=by omega
  obtain⟨ka,hka,hrk⟩:=hA.row k.toNat hkN
  have hok2:ActOf.OK maxLen H0 r.acts.xs[k.toNat]:=hA.each _ (List.getElem_mem hkN)
  generalize r.acts.xs[k.toNat]=a at*
  refine⟨hi,_,_,_,hat0,ka,hka,⟨hk.1,hlt⟩,_,_,_,_,_,_,_,_,_,_,S.e.rowAt hrk,?_⟩
  have hd:((r.acts.n:Int)-(k+1)).toNat< ((r.acts.n:Int)-k).toNat:=by omega
  rw[w64 (n:=k+1) (by omega)]
  obtain⟨-,hpS,-⟩:=S.view.inv
  refine HC.mono (made11_c S.view S.inv (by omega) S.own (λj hj=>(S.hm j hj).2) S.good (by omega) (actOfR.mono S.e hok2)) ?_
  rintro _ A2 ⟨B',c',made2,x2,sz2,rfl,T⟩
  obtain⟨-,hpT,-⟩:=T.view.inv
  have hbh:b.h ∉ [b.sp,b.m,b.s]++blks mB':=λq=>by
    rcases List.mem_append.1 q with q | q
    · have:=hpS.ne;simp at q;omega
    · exact(S.hm _ q).2 (by simp[Blk.all])
  refine⟨_,_,_,rfl,⟨⟨by omega,by omega⟩,made2,?_⟩,hd⟩
  have S2:St H0 A2 b x2 sz2 B' c' made2:=by
    refine⟨?_,T.view,T.inv,T.own,T.good,S.hb,λj hj=>?_⟩
    · refine S.e.fr_trans T.fr (λj hj=>?_)
      rcases List.mem_append.1 hj with q | q
      · exact S.hb j (by simp at q;simp[Blk.all];omega)
      · exact(S.hm j q).1
    · rcases T.blk j hj with q | q
      · exact S.hm j q
      · have:=S.e.size
        exact⟨by omega,λhb=>by have:=S.blt j hb;omega⟩
  rcases T.news with q | ⟨w,q,hw,ht⟩
  · exact⟨news,x2,sz2,rfl,S2,hba'.keep hpS hpT T.fr hbh,T.cf.trans ecf,q.trans hnw,hnd,htg⟩
  · refine⟨news++[w],x2,sz2,rfl,S2,hba'.keep hpS hpT T.fr hbh,T.cf.trans ecf,by rw[q,hnw,List.append_assoc],?_,λv hv=>?_⟩
    · rw[List.nodup_append]
      exact⟨hnd,by simp,λa ha b hb=>by simp at hb;intro e;exact hw (by rw[hnw];exact List.mem_append_right _ (by rw[<-hb,<-e];exact ha))⟩
    · rcases List.mem_append.1 hv with r | r
      · exact htg v r
      · simp at r;rw[r];exact ht

theorem St.collected{H0 H H':zV}{b:Blk}{x:Hp}{sz:Int->Nat}{mB:zW}{mC:Nat}{made:List Int}{g T:Int}{roots young:List Int}{rB:zW}{rC:Nat}{fw:Int->Option Int}{al:List Int}{sz':Int->Nat}{tr:Tr}{s3 s4 s5:Sp}(S:St H0 H b x sz mB mC made)
    (W:Went13 H H' b x sz g T roots young rB rC fw al sz' tr s3 s4 s5) (hrb: ∀j∈blks rB,H0.size<=j/\j ∉ b.all):St H0 H' b {x with sp:=s5,ep:=IntKind.wrap .u64 (x.ep+1)} (szE tr.old sz') rB rC young/\young.length=roots.length:=by
  have hyl:young.length=roots.length:=by rw[W.col.yg,List.length_map]
  refine⟨⟨?_,.real W.hp W.col.inv.ok,W.col.inv,by rw[hyl];exact W.own,W.col.good,S.hb,hrb⟩,hyl⟩
  refine S.e.fr_trans W.fr (λj hj=>?_)
  rcases List.mem_append.1 hj with q | q
  · exact S.hb j q
  · exact(hrb j q).1
theorem Own.some{H:zV}{T:TypeId}{n c:Nat}{p:zW}{xs:List Value}(h:Own H T 1 p n c xs):0<n-> ∃a,p=Option.some a:=by
  cases p with
  | none=>obtain⟨rfl,_⟩:=h;intro q;omega
  | some a=>exact λ_=>⟨a,rfl⟩
theorem St.collect{H0 H:zV}{b:Blk}{x:Hp}{sz:Int->Nat}{mB:zW}{mC:Nat}{made:List Int}{g T:Int}{k:Nat}{pB:zW}{pN pC:Nat}{rB:zW}{rC:Nat}{roots:List Int}(S:St H0 H b x sz mB mC made)(hba:Bare x)(hcf:x.sp.cf<=100000)(hg:I64 g)(hT:I64 T)
    (hr:Own H 24 1 rB roots.length rC (wvs roots)) (hrb: ∀j∈blks rB,j ∉ b.all/\j<H.size) (hpt:SrcAt H pB (ptrs k (rB.getD default) roots.length)) (hpn:pN=k+roots.length) (hpb: ∀j∈blks pB,j<H.size/\(j ∉ b.all/\j ∉ blks rB)) (hin: ∀w∈roots,w∈made) (hl:pN<=1000000000):
    gc_Collect.C (Option.some ⟨b.h,0,none⟩) g T pB pN pC H (λv H'=>(startE x.sp g T 1≠0->v=.int .i64 (startE x.sp g T 1)/\Ext H H')/\
      (startE x.sp g T 1=0->v=.int .i64 0/\ ∃young fw al sz' tr s3 s4 s5,Went13 H H' b x sz g T roots young rB rC fw al sz' tr s3 s4 s5)):=by
  obtain⟨-,hp,-⟩:=S.view.inv
  exact gc_Collect_c hp S.inv (by omega) hba.1 hba.2 hg hT hr (λj hj=>(hrb j hj).1) hpt hpn (λj hj=>⟨(hpb j hj).2.1,(hpb j hj).2.2,(hpb j hj).1⟩) (λw hw=>S.good w (hin w hw)) hl
structure Begun13 (H0 H:zV) (b:Blk) (x:Hp) (sz:Int->Nat) (mB:zW) (mC:Nat) (made:List Int):Prop where
  st:St H0 H b x sz mB mC made
  bare:Bare x
  cf:x.sp.cf<=20000
  len:made.length<=9000000
set_option maxRecDepth 100000 in
theorem begun13_c{H:zV}{limit:Int}{s:Sl RoundOf}(hl:I64 limit)(A:SlOK 6 roundOfR maxLen H s):
    morainelaw13_begun.C limit s.p s.n s.c H (λv H'=>Ext H H'/\(v=.tuple #[.pointer none,.slice none 0 0]\/ ∃b x sz mB mC made,v=.tuple #[.pointer (some ⟨b.h,0,none⟩),.slice mB made.length mC]/\s.n<=12/\Begun13 H H' b x sz mB mC made)):=by
  refine HC.via λR hR=>morainelaw13_begun.link ?_
  unfold morainelaw13_begun.pt zY
  refine HC.mono (obj_New_c hl) ?_
  rintro _ H1 (⟨hc,rfl,e1⟩ | ⟨hc,b,x0,rfl,V1,hx,e1,hb1⟩)
  · refine⟨_,_,rfl,?_⟩
    rw[if_neg (by decide)]
    exact hR _ _ ⟨e1,.inl rfl⟩
  refine⟨_,_,rfl,?_⟩
  rw[if_pos rfl]
  refine HC.mono (many13_c (SlOK.ext A e1)) ?_
  rintro _ H2 ⟨t,rfl,hfew,rfl⟩
  refine⟨_,rfl,?_⟩
  cases t with
  | true=>rw[if_pos rfl];exact hR _ _ ⟨e1,.inl rfl⟩
  | false=>
  rw[if_neg (by decide),onPtr_some]
  have hn12:=hfew rfl
  have hlen:=A.len
  obtain⟨-,hp1,ok1⟩:=V1.inv
  have S0: ∃sz,St H H2 b x0 sz none 0 []/\Bare x0/\x0.sp.cf<=1024:=by
    refine⟨λ_=>0,⟨e1,V1,⟨ok1,by rw[hx];exact even_fresh _,?_,?_⟩,own_nil,λw h=>by simp at h,hb1,λj hj=>by simp at hj⟩,by rw[hx];exact⟨rfl,rfl⟩,?_⟩
    · refine⟨λa h=>absurd rfl h,λa b h=>absurd rfl h,λa h=>absurd rfl h,λa h=>absurd rfl h,λa h=>?_⟩
      rw[hx]at h
      exact absurd rfl h.2.1.2.2
    · intro a h
      rw[hx]at h
      exact absurd rfl h.2.1.2.2
    · rw[hx]
      show(0:Int)+((limit.toNat:Nat):Int)<=1024
      omega
  obtain⟨sz0,S0,hba0,hcf0⟩:=S0
  refine⟨λmB mN mC i A'=>(0<=i/\i<=s.n)/\ ∃(made:List Int) (x:Hp) (sz:Int->Nat),mN=made.length/\St H A' b x sz mB mC made/\Bare x/\x.sp.cf<=1024*(i+1)/\(made.length:Int)<=524288*i,λ_ _ _ i _=>(s.n-i).toNat,
    ⟨⟨by omega,by omega⟩,[],x0,sz0,rfl,S0,hba0,by omega,by simp⟩,?_⟩
  rintro mB mN mC i H3 ⟨hi,made,x,sz,rfl,S,hba,hcf,hml⟩
  by_cases hlt:i< (s.n:Int)
  case neg=>
    rw[if_neg hlt]
    exact hR _ _ ⟨S.e,.inr ⟨b,x,sz,mB,mC,made,rfl,hn12,S,hba,by omega,by omega⟩⟩
  rw[if_pos hlt]
  have hiN:i.toNat<s.xs.length:=by omega
  refine acts13_loop A ⟨hi.1,hlt⟩ (List.getElem?_eq_getElem hiN) S hba (by omega) rfl (by omega) ?_
  intro la0 H4 mB' mC' made' x' sz' hla0 S4 hba4 ecf hlen'
  by_cases hlast:i=IntKind.wrap .i64 ((s.n:Int)-1)
  · rw[if_pos hlast]
    exact hR _ _ ⟨S4.e,.inr ⟨b,x',sz',mB',mC',made',rfl,hn12,S4,hba4,by omega,by omega⟩⟩
  rw[if_neg hlast]
  obtain⟨la,hla,hrow⟩:=A.row i.toNat hiN
  obtain rfl:la0=la:=by rw[hla0]at hla;exact Option.some.inj hla
  have hrk:RoundOf.OK maxLen H s.xs[i.toNat]:=A.each _ (List.getElem_mem hiN)
  generalize s.xs[i.toNat]=r at*
  have hd:((s.n:Int)-(i+1)).toNat< ((s.n:Int)-i).toNat:=by omega
  rw[w64 (n:=i+1) (by omega)]
  refine⟨⟨hi.1,hlt⟩,_,_,_,_,_,_,_,_,_,_,_,_,S4.e.rowAt hrow,?_⟩
  refine HC.mono (roots13_c r S4 (by omega)) ?_
  rintro _ H6 ⟨rB,rC,roots,rfl,e6,hro,hrb,hrin,hrl⟩
  have hat3:=rowAt_hat ((S4.e.trans e6).rowAt hrow) 3 (.int .i64 r.g) rfl
  have hat4:=rowAt_hat ((S4.e.trans e6).rowAt hrow) 4 (.int .i64 r.target) rfl
  rw[Nat.zero_add]at hat3 hat4
  refine⟨_,_,_,rfl,⟨hi.1,hlt⟩,r.g,hat3,⟨hi.1,hlt⟩,r.target,hat4,?_⟩
  refine HC.mono (pointers_c hro.some (by omega)) ?_
  rintro _ H7 ⟨pB,pC,rfl,hpt,hpb,e7⟩
  refine⟨_,_,_,rfl,row1 (e7.hat hat3),row1 (e7.hat hat4),?_⟩
  have S7:=S4.ext (e6.trans e7)
  have z4:=S4.e.size
  have z6:=e6.size
  have z7:=e7.size
  have hrbn: ∀j∈blks rB,H.size<=j/\j ∉ b.all:=λj hj=>⟨by have:=hrb j hj;omega,λq=>by have:=S4.blt j q;have:=hrb j hj;omega⟩
  refine HC.mono (S7.collect hba4 (by omega) (wf_i64 hrk.g) (wf_i64 hrk.target) (hro.ext e7) (λj hj=>⟨(hrbn j hj).2,by have:=hro.lt j hj;omega⟩) hpt rfl (λj hj=>⟨(hpb j hj).2,λq=>by have:=S4.blt j q;have:=hpb j hj;omega,λq=>by have:=hro.lt j q;have:=hpb j hj;omega⟩) hrin (by omega)) ?_
  rintro v H8 ⟨hno,hyes⟩
  by_cases hst:startE x'.sp r.g r.target 1=0
  · obtain⟨rfl,young,fw,al,sz2,tr,s3,s4,s5,W⟩:=hyes hst
    refine⟨_,rfl,?_⟩
    rw[if_pos rfl]
    obtain⟨S8,hyl⟩:=S7.collected W hrbn
    have:=W.col.cf
    exact⟨⟨⟨by omega,by omega⟩,young,_,_,hyl.symm,S8,⟨hba4.1,hba4.2⟩,by show s5.cf<=_;omega,by omega⟩,hd⟩
  · obtain⟨rfl,e8⟩:=hno hst
    refine⟨_,rfl,?_⟩
    rw[if_neg hst]
    exact⟨⟨⟨by omega,by omega⟩,made',x',sz',rfl,S7.ext e8,hba4,by omega,by omega⟩,hd⟩
