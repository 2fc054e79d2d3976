/- The law WeakOrder of morainelaw12 holds: called with any arguments it answers true and leaves what it was handed as it was. No condition. -/
import Derived.Test.YtfhbhckhmnleoaaGreatWoG
set_option linter.unusedVariables false
set_option linter.unusedSimpArgs false
namespace Go.Proofs.YtfhbhckhmnleoaaGreat.weakOrder
open Go Go.Proofs.Tryz Go.Proofs.YtfhbhckhmnleoaaGreat
open Go.ChangeShapes Go.WideShapes Go.ChangeAt Go.RowKit
structure WoT (H A:zV) (b:Blk) (n0:Nat) (lw sw:List Int) (lB:zW) (lN lC:Nat) (sB:zW) (sN sC:Nat) (t:Int) (j:Nat) (gd row:Int) (eB:zW) (eN eC:Nat) (x:Hp) (sz:Int->Nat) (L Rw As:List (Int×Int)) (es:List ((Int×Int)×Bool)):Prop where
 hp:HpAt A b x
 inv:Inv x.sp sz
 cf:x.sp.cf<=300+1024*j
 lim:(x.sp.mem.limit:Int)=300
 at':WoAt x.sp.mem sz j gd L Rw As es
 row':row=aW Rw
 lost:As.map Prod.snd++(dm es).map Prod.snd=lw
 stay:gx es=sw
 way:(L=[]/\As=[])\/ ∀x∈es,x.2=true
 len:es.length<=300
 st:j<2->dW x.sp j (j+1) 11=0
 t0:j=0->2*(x.sp.mem.nyoung 0:Int)+4+(((dm es).length / 32:Nat):Int)<=t
 ext:Ext H A
 z:n0<=A.size
 e:Own A 36 2 eB eN eC (evs (ents gd es))
 en:eN=es.length
 l:Own A 28 1 lB lN lC (wvs lw)
 s:Own A 28 1 sB sN sC (wvs sw)
 eb: ∀j∈blks eB,n0<=j
 lb: ∀j∈blks lB,n0<=j
 sb: ∀j∈blks sB,n0<=j
set_option maxRecDepth 100000 in
set_option maxHeartbeats 2000000 in
theorem law(g a7:Int)(ht:I64 g)(hq:aC a7)(H:zV):
  bL.C g a7 H (λv H'=>v=vT/\Ext H H'):=by
 refine HC.via λR hR=>bL.link ?_
 unfold bL.pt zY
 refine HC.mono (lX (limit:=300) (by decide)) ?_
 rintro _ H1 (⟨hl,rfl,hf⟩ | ⟨hl,b,x0,rfl,V1,hx,hf,dB⟩)
 ·exact absurd (by decide) hl
 refine⟨_,_,rfl,?_⟩
 have aw: ∀{A:zV} {Q:Bool->zV->Prop},Ext H A->(∀I,Ext H I->Q true I)->bJ.C A (λv H1=> ∃x:Bool,v=.bool x/\Q x H1):=λ{A Q} e hQ=>by
  refine HC.mono pn ?_
  rintro _ H3 ⟨rfl,f8⟩
  exact⟨_,rfl,hQ _ (e.trans f8)⟩
 by_cases aR:g<0\/g>300
 ·rw[if_pos (by simpa using aR)]
  refine⟨λv A=>v=true/\Ext H A,?_,?_⟩
  ·rw[if_pos rfl]
   exact aw hf (λI e=>⟨rfl,e⟩)
  ·rintro s A ⟨rfl,eA⟩
   exact hR _ _ ⟨rfl,eA⟩
 rw[if_neg (by simpa using aR)]
 have B0:Bd H H1 b x0 (λ_=>0) 300 (λ_=>0):=qp (l:=300) V1 hx hf dB
 intro gG A4 dC c8
 have f9:Ext H1 A4:=Ext.push' c8
 have dM:=B0.cap.free B0.live.ok
 refine HC.mono ((B0.grow f9).guardian (by simp at dM;omega) (by decide) (kV (H0:=H) (aL dC c8))) ?_
 rintro _ A5 ⟨h9,y3,ea,rfl,B3,dP,fN,D3,f3⟩
 refine⟨_,_,rfl,?_⟩
 have ck: ∀j∈b.all,j<A5.size:=B3.live.at'.lt
 have dI: ∀j∈b.all,H.size<=j:=B3.live.young
 have z5:H.size<=A5.size:=B3.live.ext.size
 refine⟨λrow h8 hc ha lB lN lC sB sN sC i A=> ∃k:Nat,i=k/\(k:Int)<=g/\ ∃y sz M F,Bd H A b y sz 300 (λm=>if m=0 then 4*k+4*M.length else if m=2 then 6 else 0)/\WoL y.sp.mem sz h9 M F/\row=aW M/\F.length=k/\M.length+(dm F).length=k/\WoS A A5.size h9 F h8 hc ha lB lN lC sB sN sC/\A5.size<=A.size,λ_ _ _ _ _ _ _ _ _ _ i _=>(g-i).toNat,
  ⟨0,rfl,by omega,y3,ea,[],[],B3.le (λm=>?_),⟨dP,D3.new.2,trivial,λe he=>(by cases he),λe he=>(by cases he),λe he=>(by cases he),λe he=>(by cases he),λe he=>(by cases he),List.nodup_nil⟩,rfl,rfl,rfl,⟨gF,gF,gF,rfl,rfl,rfl,λj d=>(by simp at d),λj d=>(by simp at d),λj d=>(by simp at d)⟩,Nat.le_refl _⟩,?_⟩
 ·show(if m=2 then 0+6 else 0)<=if m=0 then 4*0+4*0 else if m=2 then 6 else 0
  by_cases h2:m=2
  ·subst h2;simp
  ·simp[h2]
 rintro row h8 hc ha lB lN lC sB sN sC _ A6 ⟨k,rfl,hk,y,sz,M,F,O,L6,rfl,cn,fU,o,z6⟩
 by_cases co:(k:Int)<g
 ·rw[if_pos co]
  have ho:=O.cap.free O.live.ok
  simp only[if_pos,Nat.one_ne_zero,if_neg,Nat.reduceEqDiff,not_false_eq_true,if_false]at ho
  have hs:=qj (k:Int)
  have cq: ¬isTag (sh3 (k:Int)):=by unfold isTag;omega
  have eg:WG y sz 20:=qZ (by decide) (by decide) (by decide)
  refine HC.mono (O.Cons (a:=sh3 (k:Int)) (qZ hs.1 (by omega) cq) eg (by omega) (by decide)) ?_
  rintro _ A7 ⟨w,y7,ee,rfl,B7,d9,D7,hg⟩
  have L7:=L6.cons (O.live.n64) d9 D7 cq
  refine⟨_,_,rfl,λgH A8 dD c9=>?_⟩
  have e8:Ext A7 A8:=Ext.push' c9
  have z7:=hg.size
  have z8:=e8.size
  have nb: ∀j,A5.size<=j->j ∉ b.all:=λj d h=>by have:=ck j h;omega
  refine eV (ys:=[vu w,vu h9]) (m:=1) ((o.e.keep hg (λj d=>nb j (o.eb j d).1)).ext e8) (gS (aL dD c9)) rfl rfl rfl (by have:=o.en;omega) ?_
  intro bN dn A9 cu hh dU
  have z9:=hh.size
  have bs: ∀{T:TypeId} {c n m:Nat} {p:zW} {vs:List Value},Own A6 T c p n m vs->(∀j∈blks p,A5.size<=j/\j ∉ blks h8)->Own A9 T c p n m vs:=λh d=>((h.keep hg (λj q=>nb j (d j q).1)).ext e8).keep hh (λj q=>(d j q).2)
  have l9:=bs o.l (λj d=>⟨(o.lb j d).1,λq=>(o.eb j q).2.1 d⟩)
  have s9:=bs o.s (λj d=>⟨o.sb j d,λq=>(o.eb j q).2.2 d⟩)
  have B9:=(B7.grow e8).stay hh (λj d=>nb j (o.eb j d).1) (λj d=>by have:=(o.eb j d).1;omega)
  have W:Own A9 36 2 bN (F.length+1) dn (evs (ents h9 F++[(w,h9)])):=by
   rw[np]
   rw[o.en]at cu;exact cu
  have a4: ∀j∈blks bN,A5.size<=j/\j ∉ blks lB/\j ∉ blks sB:=λj d=>by
   rcases dU j d with q | q
   ·exact o.eb j q
   ·have h1:A6.size<=j:=by omega
    exact⟨by omega,λr=>by have:=o.l.lt j r;omega,λr=>by have:=o.s.lt j r;omega⟩
  have dQ:IntKind.wrap .i64 ((k:Int)+1)=((k+1:Nat):Int):=by rw[w64 (n:=(k:Int)+1) (by omega)];rfl
  have cp:(g-((k+1:Nat):Int)).toNat< (g-(k:Int)).toNat:=by omega
  have e3:ishl .u64 (IntKind.wrap .u64 (k:Int)) 3=sh3 (k:Int):=rfl
  rw[dQ,e3]
  refine⟨Int.tmod_nonneg _ (by omega),?_⟩
  by_cases aX:iand .u64 (ishr .u64 a7 (Int.tmod (k:Int) 64)) 1=1
  ·rw[if_pos aX]
   have dO:=B9.cap.free B9.live.ok
   simp only[if_pos,Nat.one_ne_zero,if_neg,Nat.reduceEqDiff,not_false_eq_true,if_false]at dO
   refine HC.mono (B9.Cons (a:=w) D7.new (qq L7.r L7.rg) (by omega) (by decide)) ?_
   rintro _ cY ⟨v,eh,cK,rfl,d8,br,da,b6⟩
   have dc:=L7.hold (B9.live.n64) br da
   refine⟨_,_,rfl,λf6 cZ ci ay=>?_⟩
   have ak:Ext cY cZ:=Ext.push' ay
   have gi:=b6.size
   have gj:=ak.size
   refine eV (ys:=wvs [sh3 (k:Int)]) (m:=1) ((s9.keep b6 (λj d=>nb j (o.sb j d))).ext ak) (gS (aL ci ay)) rfl rfl rfl (by have:=o.sn;have h2:(gx F).length<=F.length:=(by unfold gx;rw[List.length_map];exact List.length_filter_le _ _);omega) ?_
   intro g8 g9 d0 cr b7 aa
   have gk:=b7.size
   obtain⟨q1,q2⟩:=pu F (w,sh3 (k:Int))
   have E9: ∀{T:TypeId} {c n m:Nat} {p:zW} {vs:List Value},Own A9 T c p n m vs->(∀j∈blks p,A5.size<=j/\j ∉ blks sB)->Own d0 T c p n m vs:=λh d=>((h.keep b6 (λj q=>nb j (d j q).1)).ext ak).keep b7 (λj q=>(d j q).2)
   refine⟨⟨k+1,rfl,by omega,eh,cK,(v,w)::M,F++[((w,sh3 (k:Int)),true)],((d8.grow ak).stay b7 (λj d=>nb j (o.sb j d)) (λj d=>by have:=o.sb j d;omega)).le (λm=>?_),dc,rfl,by rw[List.length_append,cn];rfl,by rw[q1,List.length_cons];omega,⟨?_,?_,?_,?_,?_,?_,λj d=>?_,λj d=>?_,λj d=>?_⟩,by omega⟩,cp⟩
   ·show(if m=0 then(if m=0 then(if m=0 then 4*k+4*M.length else if m=2 then 6 else 0)+4 else(if m=0 then 4*k+4*M.length else if m=2 then 6 else 0))+4 else(if m=0 then(if m=0 then 4*k+4*M.length else if m=2 then 6 else 0)+4 else(if m=0 then 4*k+4*M.length else if m=2 then 6 else 0)))<=if m=0 then 4*(k+1)+4*(M.length+1)else if m=2 then 6 else 0
    by_cases h0:m=0
    ·subst h0;simp;omega
    ·simp[h0]
   ·rw[nC,o.en]
    exact E9 W (λj d=>⟨(a4 j d).1,(a4 j d).2.2⟩)
   ·rw[q1];exact E9 l9 (λj d=>o.lb j d)
   ·rw[q2,oS];exact cr
   ·rw[o.en,List.length_append];rfl
   ·rw[q1];exact o.ln
   ·rw[q2,List.length_append,o.sn];rfl
   ·obtain⟨a1,aj,a3⟩:=a4 j d
    refine⟨a1,aj,λq=>?_⟩
    rcases aa j q with r | r
    ·exact a3 r
    ·have:=W.lt j d;omega
   ·obtain⟨a1,aj⟩:=o.lb j d
    refine⟨a1,λq=>?_⟩
    rcases aa j q with r | r
    ·exact aj r
    ·have:=o.l.lt j d;omega
   ·rcases aa j d with r | r
    ·exact o.sb j r
    ·omega
  ·rw[if_neg aX]
   intro f7 d1 cj az
   have al:Ext A9 d1:=Ext.push' az
   have gn:=al.size
   refine eV (ys:=wvs [sh3 (k:Int)]) (m:=1) (l9.ext al) (gS (aL cj az)) rfl rfl rfl (by have:=o.ln;have:=j3 F;omega) ?_
   intro g6 g7 d2 cs b8 aY
   have gq:=b8.size
   obtain⟨q1,q2⟩:=qr F (w,sh3 (k:Int))
   have E9: ∀{T:TypeId} {c n m:Nat} {p:zW} {vs:List Value},Own A9 T c p n m vs->(∀j∈blks p,j ∉ blks lB)->Own d2 T c p n m vs:=λh d=>(h.ext al).keep b8 (λj q=>d j q)
   refine⟨⟨k+1,rfl,by omega,y7,ee,M,F++[((w,sh3 (k:Int)),false)],((B9.grow al).stay b8 (λj d=>nb j (o.lb j d).1) (λj d=>by have:=(o.lb j d).1;omega)).le (λm=>?_),L7,rfl,by rw[List.length_append,cn];rfl,by rw[q1,List.length_append];show M.length+((dm F).length+1)=k+1;omega,⟨?_,?_,?_,?_,?_,?_,λj d=>?_,λj d=>?_,λj d=>?_⟩,by omega⟩,cp⟩
   ·show(if m=0 then(if m=0 then 4*k+4*M.length else if m=2 then 6 else 0)+4 else(if m=0 then 4*k+4*M.length else if m=2 then 6 else 0))<=if m=0 then 4*(k+1)+4*M.length else if m=2 then 6 else 0
    by_cases h0:m=0
    ·subst h0;simp;omega
    ·simp[h0]
   ·rw[nC,o.en]
    exact E9 W (λj d=>(a4 j d).2.1)
   ·rw[q1,List.map_append,oS];exact cs
   ·rw[q2];exact E9 s9 (λj d q=>(o.lb j q).2 d)
   ·rw[o.en,List.length_append];rfl
   ·rw[q1,List.length_append,o.ln];rfl
   ·rw[q2];exact o.sn
   ·obtain⟨a1,aj,a3⟩:=a4 j d
    refine⟨a1,λq=>?_,a3⟩
    rcases aY j q with r | r
    ·exact aj r
    ·have:=W.lt j d;omega
   ·rcases aY j d with r | r
    ·exact o.lb j r
    ·exact⟨by omega,λq=>by have:=o.s.lt j q;omega⟩
   ·exact o.sb j d
 rw[if_neg co]
 have fK:(k:Int)=g:=by omega
 have W6:=L6.at' O.cap.gen
 have dN:=O.cap.free O.live.ok
 have ew:=Mem.nyoung_le O.live.ok.mem 0
 have dS:=O.cap.lim
 have cy:dW y.sp 0 1 11=0:=O.cap.start O.live.ok (by decide) (by
  simp
  omega)
 simp only[if_pos,Nat.one_ne_zero,if_neg,Nat.reduceEqDiff,not_false_eq_true,if_false]at dN
 refine⟨λm row h8 hc ha nv A=> ∃j:Nat,nv=j/\j<=2/\ ∃x sz L M As E,WoT H A b A5.size ((dm F).map Prod.snd) (gx F) lB lN lC sB sN sC 93 j m row h8 hc ha x sz L M As E,λ_ _ _ _ _ nv _=>(2-nv).toNat,
  ⟨0,rfl,by decide,y,sz,[],M,[],F,⟨O.live.at',O.inv,by rw[O.cf];decide,dS,W6,rfl,rfl,rfl,.inl ⟨rfl,rfl⟩,by omega,λ_=>cy,λ_=>by omega,O.live.ext,z6,o.e,o.en,o.l,o.s,λj d=>(o.eb j d).1,λj d=>(o.lb j d).1,o.sb⟩⟩,?_⟩
 rintro m eC fb fm fh _ bm ⟨j,rfl,fA,x,gb,L,R2,As,B,T⟩
 by_cases d:(j:Int)<2
 case neg=>
  rw[if_neg d]
  exact aw T.ext (λI e=>hR _ _ ⟨rfl,e⟩)
 rw[if_pos d]
 have dR:j<2:=by omega
 rw[w64 (n:=(j:Int)+1) (by omega)]
 have ap:=T.st dR
 have fv:=T.cf
 refine HC.mono (lc T.hp T.inv.ok T.inv.even (by omega) (by constructor<;>omega) (by constructor<;>omega) (by decide)) ?_
 rintro gd eE ⟨-,cB⟩
 obtain⟨q,t,rfl,de,Bg,b2,bO⟩:=cB ap
 refine⟨_,_,rfl,?_⟩
 rw[if_pos rfl]
 have K:t.tgt=(j:Int)+1:=Bg.tgt
 have e1:=lD T.at'
 refine HC.mono (ef de (w:=m) T.at'.gw) ?_
 rintro _ eH ⟨rfl,df,bQ⟩
 refine⟨_,rfl,?_⟩
 obtain rfl:=T.row'
 refine HC.mono (ef df (w:=aW R2) (e1 _ (by simp)).1) ?_
 rintro _ eI ⟨rfl,dh,bR⟩
 refine⟨_,rfl,?_⟩
 refine HC.mono (iF dh (Bg.seenOK T.inv.ok.mem) (by rw[K];omega)) ?_
 rintro _ d3 ⟨s3,av,dK,dJ,bw,e4,bS⟩
 have ag: ∀i∈spB b,i∈b.all:=λi G=>eY G
 have gs:=bO.size
 have gt:=bQ.size
 have gu:=bR.size
 have gv:=bS.size
 have nb: ∀i,A5.size<=i->i ∉ b.all:=λi G h=>by have:=ck i h;omega
 have dG: ∀i∈b.all,i<bm.size:=T.hp.lt
 have hi: ∀{A I:zV},Fr (spB b) A I->Fr (b.all++q.all) A I:=λf=>f.mono (λi G _=>List.mem_append_left _ (ag i G))
 have bY: ∀{A I:zV},Fr (q.s::spB b) A I->Fr (b.all++q.all) A I:=λf=>f.mono (λi G _=>by
  rcases List.mem_cons.1 G with h | h
  ·exact List.mem_append_right _ (by rw[h];simp[TB.all])
  ·exact List.mem_append_left _ (ag i h))
 have a5:=(((hi bO).trans (hi bQ)).trans (hi bR)).trans (bY bS)
 have dj: ∀{p:zW},(∀i∈blks p,A5.size<=i)->(∀i∈blks p,i<bm.size)-> ∀i∈blks p,i ∉ b.all++q.all:=λh1 h2 i G h=>by
  rcases List.mem_append.1 h with h | h
  ·exact nb i (h1 i G) h
  ·have:=b2 i h;have:=h2 i G;omega
 have dl:=T.e.keep a5 (dj T.eb T.e.lt)
 have bG:=dl.entries
 have eB:=T.len
 rw[T.en,<-jN m B]at*
 refine HC.mono (lK bw e4 (show 0<=t.tgt by rw[K];omega) bG (λe he=>⟨(iY T.at' e he).1.1,(iY T.at' e he).2.1⟩) (λi G=>⟨by have:=T.e.lt i G;omega,λh=>dj T.eb T.e.lt i G (List.mem_append_left _ h),λh=>dj T.eb T.e.lt i G (List.mem_append_right _ h)⟩) (by omega)) ?_
 rintro _ bn ⟨U,k4,D,gB,gC,dz,dV,rfl,dZ,cv,di,e5,bU⟩
 refine⟨_,_,_,rfl,?_⟩
 refine HC.mono (na di) ?_
 rintro _ a2 ⟨cx,-,bW⟩
 have an:Rdy t.old t.tgt (ents m B) s3 av (fk t.old s3.mem (ents m B)) U k4 D:=dz
 have cA:(x.sp.fresh (bI (j:Int))).visL t.old ((j:Int)+1) [m,aW R2]=((((x.sp.fresh (bI (j:Int))).visit t.old ((j:Int)+1) m).1.visit t.old ((j:Int)+1) (aW R2)).1,[((x.sp.fresh (bI (j:Int))).visit t.old ((j:Int)+1) m).2,(((x.sp.fresh (bI (j:Int))).visit t.old ((j:Int)+1) m).1.visit t.old ((j:Int)+1) (aW R2)).2]):=rfl
 have cm:cJ t.old t.tgt (((x.sp.fresh (bI (j:Int))).visit t.old t.tgt m).1.visit t.old t.tgt (aW R2)).1 t.seen s3 av:=dK
 have V:eZ t.old t.tgt s3 av:=dJ
 have b0: ∀i,i< (ents m B).length-> ¬Fit t.old U.mem (ents m B) D i:=dV
 have N:HpAt a2 b {x with sp:=((outG t.old t.tgt U (ents m B) D).1).ended t,ep:=IntKind.wrap .u64 (x.ep+1)}:=cx
 have ab:Own bn 36 2 gB (outG t.old t.tgt U (ents m B) D).2.length gC (evs (outG t.old t.tgt U (ents m B) D).2):=dZ
 rw[K]at an cm V N ab
 have be:((B.length / 32:Nat):Int)<=11:=by have:=T.len;omega
 have bc:cJ t.old ((j:Int)+1) ((x.sp.fresh (bI (j:Int))).visL t.old ((j:Int)+1) [m,aW R2]).1 t.seen s3 av:=by rw[cA];exact cm
 have cd:qf x.sp U (U.ended t) j ((j:Int)+1) As B ((x.sp.fresh (bI (j:Int))).visL t.old ((j:Int)+1) [m,aW R2]).2 (outG t.old ((j:Int)+1) U (ents m B) D):=by
  rcases T.way with⟨h1,h2⟩ | ch
  ·have W0:=T.at'
   rw[h1,h2]at W0
   rw[h2]
   exact qi T.inv W0 be ap Bg bc V an b0
  ·exact pq T.inv T.at' ch be ap Bg bc V an
 have ev:U.cf=x.sp.cf:=rS T.inv T.at' be ap Bg bc V an b0
 obtain⟨Z,L',R',I,E,e9,hv,b1,W',I',S,ds,e2,a8,a9⟩:=cd
 have cz:[((x.sp.fresh (bI (j:Int))).visit t.old ((j:Int)+1) m).2,(((x.sp.fresh (bI (j:Int))).visit t.old ((j:Int)+1) m).1.visit t.old ((j:Int)+1) (aW R2)).2]=[Z,aW R']:=by rw[<-hv,cA]
 have he:((x.sp.fresh (bI (j:Int))).visit t.old t.tgt m).2=Z:=by rw[K];exact(List.cons.inj cz).1
 have er:(((x.sp.fresh (bI (j:Int))).visit t.old t.tgt m).1.visit t.old t.tgt (aW R2)).2=aW R':=by rw[K];exact(List.cons.inj (List.cons.inj cz).2).1
 have eo:(outG t.old t.tgt U (ents m B) D).2=ents Z E:=by rw[K,b1]
 rw[b1]at N ab
 have bd:=T.lost
 have b9:I.map Prod.snd=(dm F).map Prod.snd:=ds.trans bd
 have ba:E.map (λx=>x.1.2)=gx F:=e2.trans T.stay
 have dw:I.length=lN:=by
  have:=congrArg List.length b9
  rw[List.length_map,List.length_map]at this
  rw[this,o.ln]
 have dy:L'.length=lN:=by
  have:=congrArg List.length W'.qa
  rw[List.length_map,List.length_map]at this
  rw[this,dw]
 have cc:E.length=sN:=by
  have:=congrArg List.length ba
  rw[List.length_map]at this
  rw[this,o.sn]
 have fL:lN<=300:=by have:=o.ln;have:=j3 F;omega
 have g1:sN<=300:=by
  have:=o.sn
  have h2:(gx F).length<=F.length:=by unfold gx;rw[List.length_map];exact List.length_filter_le _ _
  omega
 generalize hX:({x with sp:=U.ended t,ep:=IntKind.wrap .u64 (x.ep+1)}:Hp)=X at*
 have cg:X.sp=U.ended t:=by rw[<-hX]
 rw[<-cg]at W' I' a8 a9
 have bz:View a2 (some ⟨b.h,0,none⟩) (some (b,X)):=.real N I'.ok
 have bZ:Fr (b.all++q.all) bn a2:=bW.mono (λi G _=>by
  rcases List.mem_cons.1 G with h | G
  ·exact List.mem_append_left _ (by rw[h];simp[Blk.all])
  rcases List.mem_cons.1 G with h | G
  ·exact List.mem_append_right _ (by rw[h];simp[TB.all])
  ·exact List.mem_append_left _ (ag i G))
 have P:=(a5.trans (bY bU)).trans bZ
 have gw:=bU.size
 have gA:=bW.size
 have gr:=T.z
 have db:Ext H a2:=T.ext.fr_trans P (λi G=>by
  rcases List.mem_append.1 G with h | h
  ·exact dI i h
  ·have:=b2 i h;omega)
 have cC:=T.l.keep P (dj T.lb T.l.lt)
 have cG:=T.s.keep P (dj T.sb T.s.lt)
 have ac: ∀i∈blks gB,d3.size<=i:=cv
 have cE:=ab.keep bZ (λi G h=>by
  have h1:=ac i G
  rcases List.mem_append.1 h with h | h
  ·have:=dG i h;omega
  ·have:=bw.lt (.inr h);omega)
 refine HC.mono (show bP.C _ ((x.sp.fresh (bI (j:Int))).visit t.old t.tgt m).2 a2 _ from by rw[he];exact qP bz W'.gw (W'.queue I'.sound I'.ok.mem) (by omega)) ?_
 rintro _ d4 ⟨qB,qC,rfl,ct,ey,b3⟩
 refine⟨_,_,_,_,rfl,?_⟩
 have bA:=bz.ext b3
 have au:(outG t.old t.tgt U (ents m B) D).2.length=sN:=by rw[eo,jN,cc]
 rw[if_neg (show ¬_ from by
  show ¬(((!true) || (((L'.length:Nat):Int) !=(lN:Int))) || ((((outG t.old t.tgt U (ents m B) D).2.length:Nat):Int) !=(sN:Int)))=true
  rw[au,dy];simp)]
 refine⟨λi A=> ∃r:Nat,i=r/\r<=L'.length/\Ext d4 A,λi _=>((L'.length:Int)-i).toNat,⟨0,rfl,by omega,Ext.refl _⟩,?_⟩
 rintro _ d5 ⟨r,rfl,hr,Y⟩
 by_cases bg:(r:Int)< (L'.length:Int)
 ·rw[if_pos bg]
  have bh:r<I.length:=by omega
  have e0:(L'.map Prod.snd)[r]?=some I[r].1:=by rw[W'.qa,List.getElem?_map,List.getElem?_eq_getElem bh];rfl
  have bf:((dm F).map Prod.snd)[r]?=some I[r].2:=by rw[<-b9,List.getElem?_map,List.getElem?_eq_getElem bh];rfl
  obtain⟨a,hj,hat⟩:=ct.at (j:=r) (v:=vu I[r].1) (by unfold wvs;rw[List.getElem?_map,e0];rfl)
  refine⟨a,hj,⟨by omega,bg⟩,I[r].1,by rw[show(r:Int).toNat*1=r by omega];exact Y.hat hat,?_⟩
  refine HC.mono (qk (bA.ext Y) (W'.ca _ (List.getElem_mem bh)).pr) ?_
  rintro _ eJ ⟨rfl,bK⟩
  refine⟨_,_,rfl,?_⟩
  obtain⟨aj,bb,a6⟩:=(cC.ext (b3.trans (Y.trans bK))).at (j:=r) (v:=vu I[r].2) (by unfold wvs;rw[List.getElem?_map,bf];rfl)
  refine⟨aj,bb,⟨by omega,by omega⟩,I[r].2,by rw[show(r:Int).toNat*1=r by omega];exact a6,?_⟩
  rw[if_pos rfl,w64 (n:=(r:Int)+1) (by omega)]
  exact⟨⟨r+1,by omega,by omega,Y.trans bK⟩,by show((L'.length:Int)-((r:Int)+1)).toNat< ((L'.length:Int)-(r:Int)).toNat;omega⟩
 rw[if_neg bg]
 refine⟨λi A=> ∃r:Nat,i=r/\r<=sN/\Ext d5 A,λi _=>((sN:Int)-i).toNat,⟨0,rfl,by omega,Ext.refl _⟩,?_⟩
 rintro _ eN ⟨J,rfl,ez,b4⟩
 have u:=b3.trans (Y.trans b4)
 by_cases ae:(J:Int)< (sN:Int)
 ·rw[if_pos ae]
  have ao:J<E.length:=by omega
  have bf:(gx F)[J]?=some E[J].1.2:=by rw[<-ba,List.getElem?_map,List.getElem?_eq_getElem ao];rfl
  obtain⟨a,hj,af⟩:=(cE.ext u).entries J (by rw[jN];exact ao)
  have dL:(ents Z E)[J]'(by rw[jN];exact ao)=(E[J].1.1,Z):=by unfold ents;rw[List.getElem_map]
  rw[dL]at af
  refine⟨a,hj,⟨by omega,by rw[au];exact ae⟩,E[J].1.1,by
   rw[show(J:Int).toNat*2=J*2 by omega]
   have:=af.1
   rw[nU]at this;exact this,?_⟩
  refine HC.mono (qk (bA.ext (Y.trans b4)) (W'.ce _ (List.getElem_mem ao)).pr) ?_
  rintro _ eP ⟨rfl,b5⟩
  refine⟨_,_,rfl,?_⟩
  obtain⟨aj,bb,a6⟩:=(cG.ext (u.trans b5)).at (j:=J) (v:=vu E[J].1.2) (by unfold wvs;rw[List.getElem?_map,bf];rfl)
  refine⟨aj,bb,⟨by omega,ae⟩,E[J].1.2,by rw[show(J:Int).toNat*1=J by omega];exact a6,?_⟩
  rw[if_pos rfl]
  refine⟨⟨by omega,by rw[au];exact ae⟩,Z,by
   rw[show(J:Int).toNat*2=J*2 by omega]
   exact b5.hat (by simpa using af.2.1),?_⟩
  rw[if_pos he.symm,w64 (n:=(J:Int)+1) (by omega)]
  exact⟨⟨J+1,by omega,by omega,b4.trans b5⟩,by show((sN:Int)-((J:Int)+1)).toNat< ((sN:Int)-(J:Int)).toNat;omega⟩
 rw[if_neg ae]
 refine⟨⟨j+1,rfl,by omega,X,e9,L',R',I,E,⟨N.ext u,I',?_,by rw[a9];exact T.lim,?_,er,by rw[b9,iJ S,List.map_nil,List.append_nil],by rw[pv S,ba],.inr S,by omega,λh=>?_,λh=>by omega,db.trans u,by have:=u.size;omega,?_,au.trans cc.symm,cC.ext u,cG.ext u,λi G=>by have:=ac i G;omega,T.lb,T.sb⟩⟩,by show(2-((j:Int)+1)).toNat< (2-(j:Int)).toNat;omega⟩
 ·have:=Sp.ended_cf U t
  rw[cg];omega
 ·rw[he];exact W'
 ·obtain rfl:j=0:=by omega
  have g2:=T.t0 rfl
  have fO:=Mem.nyoung_le I'.ok.mem 1
  have fM:=T.lim
  have fz:(x.sp.mem.limit:Int)-(2*(x.sp.mem.nyoung 0:Int)+4+(((dm B).length / 32:Nat):Int))<=X.sp.mem.free:=a8
  show dW X.sp 1 2 11=0
  unfold dW
  rw[if_neg (by decide),if_neg (by omega)]
 ·rw[he,eo]
  exact cE.ext u
set_option maxRecDepth 100000 in
theorem lifted(h:Os)(b:h.Started)(H:Type)(enc:TypeId×Value->H):
  ReturnsInHanded {} Tryz.checked h 3 .any (Rows.weakOrderSpec.pre6 enc prog Tryz.f3 Rows.weakOrderRow.domain false) (Rows.weakOrderSpec.post enc prog Tryz.f3 false true false false):=by
 refine oc (tb:=4) b (by kernel_rfl) func3
  (ChangeSpec.witness6 (enc:=enc) (C:=Tryz.checked) false ⟨#[],#[vi 0,vu 0],[]⟩ 8 (by kernel_rfl) (by kernel_rfl) (by kernel_rfl) (by kernel_rfl))
  rfl (by kernel_rfl) rfl underlying4 (λf d=>?_) ?_
 ·match f,d with
  | [m,n],_=>rfl
 intro W e args f p a g _
 rw[params3]at g a
 obtain⟨i,v,m,o,z,B,c,rfl,rfl,r,t⟩:=trodAll_cons g
 obtain⟨j,w,n,q,A,D,rfl,rfl,rfl,s,u⟩:=trodAll_cons t
 obtain⟨rfl,rfl,rfl⟩:=trodAll_nil u
 obtain rfl:args= #[i,j]:=by cases args;simp_all
 obtain⟨k,rfl,rfl,rfl,x⟩:=open_int underlying3 (a 0 3 i rfl rfl) r
 obtain⟨l,rfl,rfl,rfl,y⟩:=open_int underlying22 (a 1 22 j rfl rfl) s
 exact law k l (wf_i64 x) (wf_u64 y) W.heap
theorem over:Rows.weakOrderRow.holds Tryz.pinned (OpenSpec.ofChange Rows.weakOrderSpec):=
 OpenClaim.holds_of_wide 3 Tryz.f3 rfl rfl rfl rfl rfl rfl rfl ⟨rfl,rfl,rfl,rfl,rfl⟩ rfl rfl rfl rfl rfl (by kernel_rfl) func3 (by kernel_rfl)
  (of_decide_eq_true (by kernel_rfl)) (by unfold Func.isWrapper;first | (rw[if_pos (by decide+kernel)];kernel_rfl) | (rw[if_neg (by decide+kernel)];exact⟨rfl,rfl⟩))
  (λc a H b _=>lifted c a H b)
theorem proved:Rows.WeakOrderSaid:=
 over
#print axioms proved
end Go.Proofs.YtfhbhckhmnleoaaGreat.weakOrder
