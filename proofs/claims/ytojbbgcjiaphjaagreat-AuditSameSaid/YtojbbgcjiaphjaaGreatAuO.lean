/-
 A heap's cards, copied and marked anew (audit.marks). Proves nothing of any one statement.
-/
import Derived.Test.YtojbbgcjiaphjaaGreatAuD
import Derived.Test.YtojbbgcjiaphjaaGreatGcF
set_option linter.unusedVariables false
set_option linter.unusedSimpArgs false
namespace Go.Proofs.YtojbbgcjiaphjaaGreat
open Go

def k9(m:Mem):List Value:=(List.range (m.limit*72)).map λj:Nat=>(m.seg (j / 72)).cell (j % 72)
theorem nn(m:Mem){k j:Nat}(hk:k<m.limit)(hj:j<72):(k9 m)[k*72+j]?=some ((m.seg k).cell j):=by
 unfold k9
 have h1:(k+1)*72<=m.limit*72:=Nat.mul_le_mul_right _ hk
 rw[List.getElem?_map,List.getElem?_range (by omega)]
 show some ((m.seg ((k*72+j) / 72)).cell ((k*72+j) % 72))=_
 rw[show(k*72+j) / 72=k by omega,show(k*72+j) % 72=j by omega]
theorem mI(m:Mem):gK (k9 m)=true:=by
 have key: ∀l:List Nat,gK (l.map λj:Nat=>(m.seg (j / 72)).cell (j % 72))=true:=by
  intro l
  induction l with
  | nil=>rfl
  | cons j l ih=>
   have hc: ∀i:Nat,∃(k:IntKind) (n:Int),(m.seg (j / 72)).cell i=.int k n:=λi=>by
    match i with
    | 0 | 1 | 2 | 3 | 4 | 5 | 6 | 7=>exact⟨_,_,rfl⟩
    | i+8=>exact⟨_,_,rfl⟩
   obtain⟨k,n,e⟩:=hc (j % 72)
   rw[List.map_cons,e]
   show(true && _)=true
   rw[ih];rfl
 exact key _
theorem nT{H:zV}{bm bs:Nat}{m:Mem}{cap:Nat}(h:cK H bm bs m)(ok:bO m):
  aR.C (some ⟨bs,0,none⟩) m.limit cap H (λv H'=> ∃(q c:Nat),v=.slice (some ⟨q,0,none⟩) m.limit c/\H.size<=q/\(∃cs:Array Value,H'[q]?=some (.cells cs 134 (0,0))/\m.limit*72<=cs.size/\ ∀k,k<m.limit-> ∀j,j<72->cs[k*72+j]?=some ((m.seg k).cell j))/\Ext H H'):=by
 refine HC.via λR hR=>aR.link ?_
 unfold aR.pt
 rw[onPtr_some]
 intro b H1 hb1 hH1
 have e1:Ext H H1:=Ext.push' hH1
 have hlim:=ok.lim
 have ho:Own H1 134 72 (some ⟨b,0,none⟩) 0 0 []:=⟨rfl,_,aG hb1 hH1,rfl,Nat.le_refl _,rfl,λj hj=>by omega⟩
 have hvl:(k9 m).length=m.limit*72:=by unfold k9;simp
 refine fG (ys:=k9 m) ho ?_ hvl (mI m) (by simp) (by omega) ?_
 ·refine gU λj v hv=>?_
  have hj:j<m.limit*72:=by
   rw[<-hvl]
   rcases Nat.lt_or_ge j (k9 m).length with h | h
   ·exact h
   ·rw[List.getElem?_eq_none h]at hv;cases hv
  have hq:(k9 m)[j / 72*72+j % 72]?=some ((m.seg (j / 72)).cell (j % 72)):=nn m (by omega) (by omega)
  rw[show j / 72*72+j % 72=j by omega,hv]at hq
  have ha:=(h.ext e1).at (k:=j / 72) (j:=j % 72) (by omega) (by omega)
  rw[addr_add_mk,Option.some.inj hq,<-ha]
  congr 2;omega
 ·intro p c H2 how f hnew
  rw[Nat.zero_add]at how⊢
  cases p with
  | none=>obtain⟨h0,_,_⟩:=how;omega
  | some a=>
   obtain⟨ha,cs,hb,hcs,hle,hl,hc⟩:=how
   have hq:H.size<=a.block:=by
    rcases hnew a.block (by simp)with h | h
    ·simp at h;omega
    ·have:=e1.size;omega
   rw[ha]
   refine hR _ _ ⟨a.block,c,rfl,hq,⟨cs,hb,by rw[hcs];exact Nat.mul_le_mul_right _ hle,λk hk j hj=>?_⟩,e1.fr_trans f (λi hi=>by simp at hi;omega)⟩
   have h1:(k+1)*72<=m.limit*72:=Nat.mul_le_mul_right _ hk
   rw[hc _ (by omega),List.nil_append,nn m hk hj]
theorem oW{H:zV}{bm bs:Nat}{m:Mem}(h:cK H bm bs m)(ok:bO m):
  eS.C (some ⟨bm,0,none⟩) H (λv H'=> ∃bm' bs',v=.pointer (some ⟨bm',0,none⟩)/\cK H' bm' bs' m/\H.size<=bm'/\H.size<=bs'/\Ext H H'):=by
 refine HC.via λR hR=>eS.link ?_
 unfold eS.pt
 rw[onPtr_some]
 refine⟨_,_,_,h.segsAt.choose_spec,_,h.countAt,_,h.freeAt,HC.mono (nT h ok) ?_⟩
 rintro _ H1 ⟨q,c,rfl,hq,hcs,e1⟩
 have h1:=h.ext e1
 refine⟨_,_,_,rfl,⟨h1.countAt,trivial⟩,⟨h1.freeAt,trivial⟩,λb H2 hb hH2=>?_⟩
 have e2:Ext H1 H2:=Ext.push' hH2
 obtain⟨cs,g,g1,g2⟩:=hcs
 have hql:=aO g
 have:=e1.size
 exact hR _ _ ⟨b,q,rfl,⟨⟨c,aG hb hH2⟩,by omega,cs,e2.get g,g1,g2⟩,by omega,hq,e1.trans e2⟩
set_option maxRecDepth 100000 in
theorem pI{H:zV}{b:Blk}{s:Sp}(h:SpAt H b s)(ok:SpOK s):
  cT.C (some ⟨b.sp,0,none⟩) H (λv H'=> ∃b':Blk,v=.pointer (some ⟨b'.sp,0,none⟩)/\SpAt H' b' s/\(H.size<=b'.sp/\H.size<=b'.m/\H.size<=b'.s)/\Ext H H'):=by
 refine HC.via λR hR=>cT.link ?_
 unfold cT.pt
 rw[onPtr_some]
 have row: ∀{Hx:zV},Ext H Hx->aS Hx ((Addr.mk b.sp 0 none).add 1) 0 ((List.range 20).map λj:Nat=>Value.int .i64 (s.cur (j / 4) (j % 4))):=λe=>by
  refine gU λj v hv=>?_
  have hj:j<20:=by
   rcases Nat.lt_or_ge j 20 with h | h
   ·exact h
   ·rw[List.getElem?_eq_none (by simpa using h)]at hv;cases hv
  rw[List.getElem?_map,List.getElem?_range hj]at hv
  have ha:=(h.ext e).curAt (g:=j / 4) (k:=j % 4) (by omega) (by omega)
  rw[addr_add_mk,addr_add_mk,<-Option.some.inj hv,<-ha]
  congr 2;omega
 refine⟨_,h.memPtr,s.cur 0 0,s.cur 0 1,s.cur 0 2,s.cur 0 3,s.cur 1 0,s.cur 1 1,s.cur 1 2,s.cur 1 3,s.cur 2 0,s.cur 2 1,s.cur 2 2,s.cur 2 3,s.cur 3 0,s.cur 3 1,s.cur 3 2,s.cur 3 3,s.cur 4 0,s.cur 4 1,s.cur 4 2,s.cur 4 3,row (Ext.refl _),HC.mono (oW h.mem ok.mem) ?_⟩
 rintro _ H1 ⟨bm,bs,rfl,M,h1,h2,e1⟩
 refine⟨_,rfl,row e1,λbp H2 hb hH2=>?_⟩
 have e2:Ext H1 H2:=Ext.push' hH2
 have hml:=M.lt
 have:=e1.size
 refine hR _ _ ⟨⟨0,0,bp,bm,bs⟩,rfl,⟨M.ext e2,⟨by show bp≠bm;omega,by show bp≠bs;omega⟩,_,aG hb hH2,rfl,rfl,λg k hg hk=>?_⟩,⟨by show H.size<=bp;omega,h1,h2⟩,e1.trans e2⟩
 rcases(show g=0\/g=1\/g=2\/g=3\/g=4 by omega)with rfl | rfl | rfl | rfl | rfl<;>rcases(show k=0\/k=1\/k=2\/k=3 by omega)with rfl | rfl | rfl | rfl<;>rfl
theorem pJ{H:zV}{b:Blk}{s:Sp}(h:CdAt H b s)(ok:SpOK s):
  cX.C (some ⟨b.c,0,none⟩) H (λv H'=> ∃b':Blk,v=.pointer (some ⟨b'.c,0,none⟩)/\CdAt H' b' s/\(∀j∈[b'.c,b'.sp,b'.m,b'.s],H.size<=j/\j<H'.size)/\Ext H H'):=by
 refine HC.via λR hR=>cX.link ?_
 unfold cX.pt
 rw[onPtr_some]
 refine⟨_,h.cPtr,HC.mono (pI h.sp ok) ?_⟩
 rintro _ H1 ⟨b',rfl,S,⟨h1,h2,h3⟩,e1⟩
 refine⟨_,rfl,λbc H2 hb hH2=>?_⟩
 have e2:Ext H1 H2:=Ext.push' hH2
 have z2:H2.size=H1.size+1:=by rw[hH2];simp
 have hml:=S.mem.lt
 obtain⟨cs,hs,_⟩:=S.sp
 have hsl:=aO hs
 have:=e1.size
 refine hR _ _ ⟨⟨b'.h,bc,b'.sp,b'.m,b'.s⟩,rfl,⟨⟨S.mem.ext e2,S.ne,(S.ext e2).sp⟩,⟨by show bc≠b'.sp;omega,by show bc≠b'.m;omega,by show bc≠b'.s;omega⟩,aG hb hH2⟩,λj hj=>?_,e1.trans e2⟩
 simp only[List.mem_cons,List.not_mem_nil,or_false]at hj
 rcases hj with rfl | rfl | rfl | rfl<;>omega
set_option maxRecDepth 100000 in
set_option maxHeartbeats 1000000 in
theorem qq{A:zV}{b:Blk}{x:Hp}(hp:HpAt A b x)(ok:SpOK x.sp)(hmk: ∀k:Nat,x.sp.mem.has k-> ∀c:Nat,c<4->(x.sp.mem.seg k).cards c<=x.sp.mem.mark1 k c):
  fD.C (some ⟨b.h,0,none⟩) A (λv A'=>v=.tuple #[.int .i64 0,.int .i64 0]/\Ext A A'):=by
 refine HC.via λR hR=>fD.link ?_
 unfold fD.pt zY
 refine HC.mono (j1 hp) ?_
 rintro _ AA ⟨rfl,hAA⟩
 obtain rfl:A=AA:=hAA.symm
 refine⟨_,rfl,?_⟩
 rw[if_neg (by decide)]
 refine⟨_,rfl,_,hp.hPtr,HC.mono (pJ hp.cd ok) ?_⟩
 rintro _ H2 ⟨b',rfl,C2,hb',e2⟩
 have hp2:=hp.ext e2
 refine⟨_,rfl,_,hp2.hPtr,_,rfl,_,hp2.cd.cPtr,_,rfl,_,hp2.cd.sp.memPtr,?_⟩
 refine HC.mono (k8 (gs:=[]) hp2.cd.sp.mem ok.mem (by rw[SrcAt_none];rfl) rfl (by decide)) ?_
 rintro _ H3 ⟨B,c,l,rfl,hl,how,hfr,e3⟩
 have hlim:=ok.mem.lim
 have hlen:=hl.len
 have z3:=e3.size
 have hS: ∀i∈[b'.m,b'.s],A.size<=i/\i<H2.size:=λi hi=>hb' i (by simp at hi;rcases hi with rfl | rfl<;>simp)
 have hBS: ∀j∈blks B,j ∉ [b'.m,b'.s]:=λj hj h=>by have:=hfr j hj;have:=(hS j h).2;omega
 refine⟨_,_,_,rfl,λi H=>(0<=i/\i<=l.length)/\Ext A H/\H2.size<=H.size/\Own H 3 1 B l.length c (ivs (l.map λi:Nat=>(i:Int)))/\ ∃s':Sp,CdAt H b' s'/\SpOK s'/\Unm x.sp.mem s'.mem,λi _=>(l.length-i).toNat,
  ⟨⟨by omega,by omega⟩,e2.trans e3,z3,how,x.sp,C2.ext e3,ok,Unm.refl _⟩,?_⟩
 rintro i H4 ⟨hi,e4,z4,how4,s',C4,ok4,u4⟩
 by_cases hlt:i< (l.length:Int)
 case neg=>
  rw[if_neg hlt]
  exact hR _ _ ⟨rfl,e4⟩
 rw[if_pos hlt]
 have hil:i.toNat<l.length:=by omega
 obtain⟨a,ha,hat3⟩:=pD how4 hil
 obtain⟨khas,klim,kpos,kgen⟩:=hl.has (List.getElem_mem hil)
 generalize hkk:l[i.toNat]=k at*
 have hp4:=hp.ext e4
 refine⟨a,ha,⟨hi.1,hlt⟩,(k:Int),hat3,_,hp4.hPtr,_,rfl,_,hp4.cd.cPtr,_,rfl,_,hp4.cd.sp.memPtr,?_⟩
 refine HC.mono (jH hp4.cd.sp.mem) ?_
 rintro _ H5 ⟨rfl,e5⟩
 refine⟨_,_,_,_,_,_,_,_,rfl,λc6 H6 hc6 hH6=>?_⟩
 obtain⟨hcp,hs⟩:=ke (x.sp.mem.segOr k) hc6 hH6
 refine⟨hcp,λH7 hH7=>?_⟩
 obtain⟨e67,_,_,_,hr7⟩:=hs H7 hH7
 have esg:x.sp.mem.segOr (k:Int)=x.sp.mem.seg k:=by unfold Mem.segOr;rw[if_pos khas];rfl
 rw[esg]at hr7
 have hw1:IntKind.wrap .i64 (i+1)=i+1:=w64 (by omega)
 have e47:=e5.trans e67
 have z47:=e47.size
 refine⟨_,_,_,_,aS.sub 3 hr7 rfl,λt H=>(0<=t/\t<=4)/\Ext A H/\H2.size<=H.size/\Own H 3 1 B l.length c (ivs (l.map λi:Nat=>(i:Int)))/\ ∃s':Sp,CdAt H b' s'/\SpOK s'/\Unm x.sp.mem s'.mem,λt _=>(4-t).toNat,
  ⟨⟨by omega,by omega⟩,e4.trans e47,by omega,how4.ext e47,s',C4.ext e47,ok4,u4⟩,?_⟩
 rintro t H8 ⟨ht,e8,z8,how8,s8,C8,ok8,u8⟩
 by_cases ht4:t<4
 case neg=>
  rw[if_neg ht4,hw1]
  exact⟨⟨⟨by omega,by omega⟩,e8,z8,how8,s8,C8,ok8,u8⟩,by show((l.length:Int)-(i+1)).toNat< ((l.length:Int)-i).toNat;omega⟩
 rw[if_pos ht4]
 refine⟨(x.sp.mem.seg k).cards t.toNat,⟨⟨ht.1,ht4⟩,by
  rcases(show t.toNat=0\/t.toNat=1\/t.toNat=2\/t.toNat=3 by omega)with h | h | h | h<;>rw[h]<;>rfl⟩,?_⟩
 have hb2: ∀j∈[b'.c,b'.sp,b'.m,b'.s],j<H8.size:=λj hj=>by have:=(hb' j hj).2;omega
 refine HC.mono (mG C8 ok8 hb2) ?_
 rintro _ H9 ⟨⟨er,rfl⟩,C9,f9⟩
 refine⟨er,rfl,_,rfl,_,C9.cPtr,_,rfl,_,C9.sp.memPtr,?_⟩
 refine HC.mono (jH C9.sp.mem) ?_
 rintro _ H10 ⟨rfl,e10⟩
 refine⟨_,_,_,_,_,_,_,_,rfl,λc11 H11 hc11 hH11=>?_⟩
 obtain⟨hcp11,hs11⟩:=ke ((s8.mem.again k t).segOr k) hc11 hH11
 refine⟨hcp11,λH12 hH12=>⟨⟨ht.1,ht4⟩,?_⟩⟩
 obtain⟨e12,_,_,_,hr12⟩:=hs11 H12 hH12
 have u9:Unm x.sp.mem (s8.mem.again k t):=u8.trans (Unm.again _ _ _)
 have esg9:(s8.mem.again k t).segOr (k:Int)=(s8.mem.again k t).seg k:=by unfold Mem.segOr;rw[if_pos (u9.has.2 khas)];rfl
 rw[esg9]at hr12
 have hcd:((s8.mem.again k t).seg k).cards t.toNat=x.sp.mem.mark1 k t.toNat:=by
  rw[Mem.again_cards ok8.mem,if_pos ⟨by rw[show((t.toNat:Nat):Int)=t by omega],u8.has.2 khas,ht4⟩]
  unfold Mem.mark1
  rw[u8.markOf,u8.cardLen,show((t.toNat:Nat):Int)=t by omega]
 have hle:=hmk k khas t.toNat (by omega)
 have z9:=f9.size
 have hat12:hat H12 (((Addr.mk c11 0 none).add 3).add (Int.toNat t*1))=some (.int .i64 (((s8.mem.again k t).seg k).cards t.toNat)):=by
  have hr3:=aS.sub (us:=[.int .i64 (((s8.mem.again k t).seg k).cards 0),.int .i64 (((s8.mem.again k t).seg k).cards 1),.int .i64 (((s8.mem.again k t).seg k).cards 2),.int .i64 (((s8.mem.again k t).seg k).cards 3)]) 3 hr12 rfl
  obtain⟨q0,q1,q2,q3,_⟩:=hr3
  rcases(show t.toNat=0\/t.toNat=1\/t.toNat=2\/t.toNat=3 by omega)with h | h | h | h<;>rw[h]
  ·exact q0
  ·exact q1
  ·exact q2
  ·exact q3
 refine⟨_,hat12,?_⟩
 rw[if_neg (by rw[hcd];omega),w64 (n:=t+1) (by omega)]
 have e1012:=e10.trans e12
 have z12:=e1012.size
 exact⟨⟨⟨by omega,by omega⟩,(e8.fr_trans f9 (λi hi=>(hS i hi).1)).trans e1012,by omega,(how8.keep f9 hBS).ext e1012,_,C9.ext e1012,ok8.again k t,u9⟩,by show(4-(t+1)).toNat< (4-t).toNat;omega⟩
