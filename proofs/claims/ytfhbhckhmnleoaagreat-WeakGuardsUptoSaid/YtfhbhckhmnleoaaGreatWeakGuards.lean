/- The law WeakGuards of morainelaw12 holds: called with any arguments that hold no more than a machine can (Upto) it answers true and leaves what it was handed as it was. No other condition. -/
import Derived.Test.YtfhbhckhmnleoaaGreatWuJ
set_option linter.unusedVariables false
set_option linter.unusedSimpArgs false
namespace Go.Proofs.YtfhbhckhmnleoaaGreat.weakGuards
open Go Go.Proofs.Tryz Go.Proofs.YtfhbhckhmnleoaaGreat
open Go.ChangeShapes Go.WideShapes Go.ChangeAt Go.RowKit
set_option maxRecDepth 100000 in
set_option maxHeartbeats 4000000 in
theorem law(ai:Int)(s:Sl cG)(H:zV)(hl:I64 ai)(A:SlOK 5 jy 1048576 H s):
  bO.C ai s.p s.n s.c H (λv H'=>v=vT/\Ext H H'):=by
 have A:SlOK 5 jy mo H s:=A
 have B:SlOK 5 jy maxLen H s:=rv A (by decide) (λ_=>rfl) (λy=>tu (by decide))
 refine HC.via λR hR=>bO.link ?_
 unfold bO.pt zY
 have cA: ∀{A:zV} {Q:Bool->zV->Prop},Ext H A->(∀A',Ext H A'->Q true A')->bJ.C A (λv H1=> ∃x:Bool,v=.bool x/\Q x H1):=λ{A Q} e hQ=>by
  refine HC.mono rV ?_
  rintro _ H3 ⟨rfl,e3⟩
  exact⟨_,rfl,hQ _ (e.trans e3)⟩
 refine HC.mono (oa hl) ?_
 rintro _ H1 (⟨hc,rfl,e1⟩ | ⟨hc,b,x0,rfl,V1,hx,e1,bQ⟩)
 ·refine⟨_,_,rfl,?_⟩
  refine HC.mono (pQ (SlOK.ext A e1)) ?_
  rintro _ H2 ⟨t,rfl,-,bd⟩
  obtain rfl:H1=H2:=bd.symm
  refine⟨_,rfl,?_⟩
  rw[if_pos (by simp)]
  refine⟨λv A=>v=true/\Ext H A,?_,?_⟩
  ·rw[if_neg (by decide),if_pos rfl]
   exact cA e1 (λA' e=>⟨rfl,e⟩)
  ·rintro v A ⟨rfl,fe⟩
   exact hR _ _ ⟨rfl,fe⟩
 refine⟨_,_,rfl,?_⟩
 refine HC.mono (pQ (SlOK.ext A e1)) ?_
 rintro _ H2 ⟨tm,rfl,bS,bd⟩
 obtain rfl:H1=H2:=bd.symm
 refine⟨_,rfl,?_⟩
 by_cases c6:tm=true
 ·rw[if_pos (by rw[c6];rfl)]
  refine⟨λv A=>v=true/\Ext H A,?_,?_⟩
  ·rw[if_pos rfl]
   exact cA e1 (λA' e=>⟨rfl,e⟩)
  ·rintro v A ⟨rfl,fe⟩
   exact hR _ _ ⟨rfl,fe⟩
 have c5:tm=false:=by simpa using c6
 rw[if_neg (by rw[c5];decide)]
 obtain⟨dB,d4,em⟩:=bS c5
 have dc:=A.len
 have b6:=tA V1 hx e1 bQ
 have du:x0.sp.cf<=1024:=by rw[b6.cf];omega
 have S0:Ws H H1 b x0 (λ_=>0) (λ_=> []) none 0 [] none 0 []:=
  ⟨e1,b6.live.at',b6.inv,GI.fresh (λ_=>rfl),λw O=>(by cases O),iB,λw O=>(by cases O),iB,λe he=>(by cases he),bQ,λj o=>(by simp at o),λj o=>(by simp at o)⟩
 refine⟨λmB mN mC eB ff eC i A'=> ∃k:Nat,i=k/\k<=s.n/\ ∃(x:Hp) (sz:Int->Nat) (L:Int->List (Int×Int)) (a0:List Int) (el:List (Int×Int)),mN=a0.length/\ff=el.length/\Ws H A' b x sz L mB mC a0 eB eC el/\x.sp.cf<=1024+1024*k/\a0.length<=401*k/\el.length<=gsum (s.xs.take k),λ_ _ _ _ _ _ i _=>((s.n:Int)-i).toNat,
  ⟨0,rfl,by omega,x0,_,_,[],[],rfl,rfl,S0,by omega,by simp,by simp[gsum]⟩,?_⟩
 rintro mB _ mC eB _ eC _ A6 ⟨k,rfl,hk,x,sz,L,a0,el,rfl,rfl,S6,ek,er,dA⟩
 by_cases bi:(k:Int)< (s.n:Int)
 case neg=>
  rw[if_neg bi]
  exact cA S6.e (λA' e=>hR _ _ ⟨rfl,e⟩)
 rw[if_pos bi]
 have ax:k<s.xs.length:=by omega
 have hd:((s.n:Int)-((k+1:Nat):Int)).toNat< ((s.n:Int)-(k:Int)).toNat:=by omega
 have df:IntKind.wrap .i64 ((k:Int)+1)=((k+1:Nat):Int):=by rw[w64 (n:=(k:Int)+1) (by omega)];rfl
 rw[df]
 obtain⟨la,d6,bZ⟩:=B.row k ax
 have az:cG.OK maxLen H s.xs[k]:=B.each _ (List.getElem_mem ax)
 have be:s.xs[k].acts.n<=401:=d4 _ (List.getElem_mem ax)
 have bm:s.xs.take (k+1)=s.xs.take k++[s.xs[k]]:=List.take_succ_eq_append_getElem ax
 have d5:=rY s.xs (k+1)
 rw[bm,kJ]at d5
 generalize s.xs[k]=r at*
 refine⟨la,d6,⟨by omega,bi⟩,_,_,_,_,_,_,_,_,_,by rw[show(k:Int).toNat*5=k*5 by omega];exact S6.e.rowAt bZ,λc A7 d0 cT=>?_⟩
 obtain⟨d1,hs⟩:=tK (n:=5) (vs:=r.cells) d0 cT rfl rfl
 refine⟨d1,λA8 cW=>?_⟩
 obtain⟨g8,e8⟩:=hs A8 cW
 have S8:=S6.ext e8
 have dq:jI A8 c r:=⟨g8⟩
 have z6:=S6.e.size
 have cN:c ∉ b.all/\c ∉ blks mB/\c ∉ blks eB:=⟨λq=>by have:=S6.blt c q;omega,λq=>by have:=S6.own.lt c q;omega,λq=>by have:=S6.eo.lt c q;omega⟩
 refine pR (r:=r) S8 (by omega) rfl (by omega) dq ⟨cN.1,cN.2.1⟩ az.acts be ?_
 intro A9 dp eA z x9 cg L9 S9 dx dC cc ea eZ
 refine⟨_,_,_,_,_,_,_,_,_,iO cc.at',?_⟩
 refine HC.mono (pS S9 az.guard (by omega) (by omega)) ?_
 rintro _ b5 ⟨cF,ee,m,rfl,d,dz,cK⟩
 have ak:=cc.keep cK cN.2.2
 refine⟨_,_,_,rfl,r.g,by rw[ig ak.at' 2];rfl,r.target,by rw[ig ak.at' 3];rfl,?_⟩
 have cj:m.length<=400:=by omega
 refine HC.mono (nn d.hp d.inv.ok d.inv.even (by omega) (wf_i64 az.g) (wf_i64 az.target) (by decide)) ?_
 rintro eE cn ⟨d9,c8⟩
 by_cases ag:ic x9.sp r.g r.target 20=0
 case neg=>
  obtain⟨rfl,cB⟩:=d9 ag
  refine⟨_,_,rfl,?_⟩
  rw[if_neg ag]
  exact⟨⟨k+1,rfl,by omega,x9,cg,L9,z,m,rfl,rfl,d.ext cB,by omega,by omega,by rw[bm,kJ];omega⟩,hd⟩
 obtain⟨q,t,rfl,a5,Bg,ae,a8⟩:=c8 ag
 refine⟨_,_,rfl,?_⟩
 rw[if_pos rfl]
 have D:t.tgt=r.target:=Bg.tgt
 have dD:=(li (by decide) ag).1
 have J: ∀j∈spB b,j∈b.all:=λj o=>gH o
 have M: ∀j∈blks dp,j ∉ spB b:=λj o q=>(d.hm j o).2 (J j q)
 have T: ∀j∈blks cF,j ∉ spB b:=λj o q=>(d.he j o).2.1 (J j q)
 have aU:c ∉ spB b:=λq=>cN.1 (J c q)
 have aj:=d.own.keep a8 M
 have bH:=d.eo.keep a8 T
 refine qK (r:=r) a5 aj (λw O=>(d.good w O).1) (by omega) (ak.keep a8 aU) aU M ?_
 intro dL rs db cu ap
 refine HC.mono (qx cu (Bg.cardsOK d.inv.ok.mem)) ?_
 rintro _ dM ⟨cv,au⟩
 refine HC.mono (kf cv (Bg.seenOK d.inv.ok.mem) (by rw[D];omega)) ?_
 rintro _ dN ⟨s3,bn,d3,d2,bB,dd,av⟩
 have bl:q.s∈q.all:=by simp[TB.all]
 have nq: ∀{p:zW},(∀j∈blks p,j<b5.size)->(∀j∈blks p,j ∉ spB b)-> ∀j∈blks p,j ∉ q.s::spB b:=λh1 h2 j o h=>by
  rcases List.mem_cons.1 h with h | h
  ·have:=h1 j o;have:=ae q.s bl;omega
  ·exact h2 j o h
 have aZ:=((bH.keep ap T).keep au T).keep av (nq d.eo.lt T)
 refine pT bB aZ (λe he=>(d.egood e he).1.1) (by omega) ?_
 intro dP lB lC d7 bV a6
 have cw:=bB.grow a6
 have b0:=aZ.ext a6
 have eF:=a8.size
 have eG:=ap.size
 have eH:=au.size
 have eI:=av.size
 have eJ:=a6.size
 refine HC.mono (nN cw dd (show 0<=t.tgt by rw[D];omega) b0.entries (λe he=>⟨(d.egood e he).1.1,(d.egood e he).2.1⟩) (λj o=>⟨by have:=d.eo.lt j o;omega,(d.he j o).2.1,λh=>by have:=d.eo.lt j o;have:=ae j h;omega⟩) (by omega)) ?_
 rintro _ bu ⟨G,k4,l,gB,gC,cY,d8,rfl,da,Z,cx,de,a9⟩
 refine⟨_,_,_,rfl,?_⟩
 refine HC.mono (kS cx (Bg.frmOK d.inv.ok.mem) (Bg.cardsOK d.inv.ok.mem)) ?_
 rintro _ bw ⟨ah,bT,cy,aa⟩
 have b1:Rdy t.old t.tgt m s3 bn (fP t.old s3.mem m) G k4 l:=cY
 have b3:dY t.old t.tgt (((x9.sp.fresh (eM r.g)).visL t.old t.tgt rs).1.lookCards t.old t.tgt t.cards) t.seen s3 bn:=d3
 have b2:ii t.old t.tgt s3 bn:=d2
 have bW: ∀i,i<m.length-> ¬Fit t.old G.mem m l i:=d8
 have bf:cU (outG t.old t.tgt G m l).1.mem [t.tgt] ah:=bT
 have Y:Own bu 36 2 gB (outG t.old t.tgt G m l).2.length gC (evs (outG t.old t.tgt G m l).2):=da
 have aT:Tg bw b {x9 with sp:={(outG t.old t.tgt G m l).1 with mem:=((outG t.old t.tgt G m l).1.mem.weaks t ah).foldl (brkR t.old) (outG t.old t.tgt G m l).1.mem}} q {t with seen:=k4}:=cy
 rw[D]at b1 b3 b2
 obtain⟨V,qq,P,U,al,ce,N,W⟩:=tt d.inv d.gi (more:=20) (by omega) ag Bg (λw O=>d.good w (db w O)) d.egood b3 b2 b1 bW
 have b4:outG t.old r.target G m l=(G,outL t.old U m l):=rq W.on d.egood W.set
 have bL:(outG t.old t.tgt G m l).2=outL t.old U m l:=by rw[D,b4]
 have cJ:outG t.old t.tgt G m l=(G,outL t.old U m l):=by rw[D];exact b4
 rw[cJ]at bf Y aT
 rw[D]at bf
 have C:=Tri.ends (s0:=x9.sp) W.on.S W.on.tri d.inv.marked Bg rfl W.on.fin W.on.roots bf
 obtain⟨u,af⟩: ∃u:Sp,u={G with mem:=(G.mem.weaks t ah).foldl (brkR t.old) G.mem}:=⟨_,rfl⟩
 have C':gq ⟨x9.sp.mem,cg,t.old,r.target,V,qq,P⟩ x9.sp r.g t U al ce G u (u.ended t):=by rw[af];exact C
 obtain⟨y,hy⟩: ∃y:Hp,y={x9 with sp:=u}:=⟨_,rfl⟩
 have K:y.sp=u:=by rw[hy]
 have bE:Tg bw b y q {t with seen:=k4}:=by rw[hy,af];exact aT
 obtain⟨E,f5⟩:=uI d.gi W d.egood C' K
 obtain⟨L5,I5,G5,P5,M5,E5,ch,-⟩:=uf d.gi W d.egood C' d.pv d.good
 have eN:=a9.size
 have eO:=aa.size
 have bp: ∀j∈blks lB,j ∉ spB b:=λj o h=>by have:=bV j o;have:=a5.lt (.inl (J j h));omega
 have bP: ∀j∈blks gB,j ∉ spB b:=λj o h=>by have:=Z j o;have:=a5.lt (.inl (J j h));omega
 have dm: ∀j∈blks lB,j ∉ q.s::spB b:=λj o h=>by
  have:=bV j o
  rcases List.mem_cons.1 h with h | h
  ·have:=a5.lt (.inr bl);omega
  ·exact bp j o h
 have bI:=(b0.keep a9 (nq d.eo.lt T)).keep aa T
 have c9:=(d7.keep a9 dm).keep aa bp
 have cd:=Y.keep aa bP
 have E':EnF y ({t with seen:=k4}:Tr).old ({t with seen:=k4}:Tr).tgt m (ik t.old s3.mem m) (Fw t.old U) (dnB t.old U) (outL t.old U m l):=by
  show EnF y t.old t.tgt m (ik t.old s3.mem m) (Fw t.old U) (dnB t.old U) (outL t.old U m l)
  rw[D];exact E
 have bh:(outG t.old t.tgt G m l).2.length=(outL t.old U m l).length:=by rw[bL]
 have ck:(outL t.old U m l).length<=m.length:=ta _ _ _ _
 rw[bh]
 refine pV bE E' (by omega) bI c9 cd T bp bP ?_
 intro dQ an bM
 rw[if_pos rfl]
 refine HC.mono (nr an (Bg.frmOK d.inv.ok.mem) (Bg.cardsOK d.inv.ok.mem)) ?_
 rintro _ dR ⟨bo,wB,wn,wC,bU,rfl,dj,dk,ew,dh,ao⟩
 refine⟨_,_,_,rfl,?_⟩
 subst dj
 have bg:cU u.mem [r.target] bo:=by
  have:cU y.sp.mem [t.tgt] bo:=bU
  rw[D,K]at this;exact this
 have bX:aX u.mem:=by rw[<-K];exact an.ok.mem
 have di: ∀a∈y.sp.mem.weaks {t with seen:=k4} bo,y.sp.mem.used a/\a<=1000000/\aC (y.sp.mem.get a)/\ ¬aG t.old (y.sp.mem.get a):=by
  rw[K]
  exact C'.weaks rfl bg bX
 refine oQ (an.grow ao) dk dh di ?_
 intro co b9
 have cz:=an.grow (ao.trans b9)
 have aw:=((aa.trans bM).trans (ao.trans b9).fr)
 have bq:=((((((aj.keep ap M).keep au M).keep av (nq d.own.lt M)).ext a6).keep a9 (nq d.own.lt M))).keep aw M
 have c7: ∀w∈z,reachedB ({t with seen:=k4}:Tr).old y.sp.mem w=true->y.sp.visit ({t with seen:=k4}:Tr).old ({t with seen:=k4}:Tr).tgt w=(y.sp,Fw t.old U w):=λw O hr=>by
  show y.sp.visit t.old t.tgt w=_
  rw[D,K]
  exact ch w O (by rw[<-K];exact hr)
 refine HC.mono (oR cz bq (by omega) M (λw O=>(d.good w O).1) c7) ?_
 rintro _ dS ⟨pB,pC,rfl,bk,ay,bF,bc⟩
 refine⟨_,_,_,rfl,?_⟩
 have cI:(z.filter (reachedB ({t with seen:=k4}:Tr).old y.sp.mem))=z.filter (reachedB t.old u.mem):=by rw[K]
 rw[cI]at bk⊢
 have en:(z.filter (reachedB t.old u.mem)).length<=z.length:=List.length_filter_le _ _
 refine pU bF bk (by rw[List.length_map];omega) (λw O=>⟨(M5 w O).1.1,(M5 w O).2⟩) ?_
 intro cp a7
 refine HC.mono (pq (bF.grow a7)) ?_
 rintro _ a4 ⟨bY,-,cL⟩
 have bj:HpAt a4 b {x9 with sp:=u.ended t,ep:=IntKind.wrap .u64 (x9.ep+1)}:=by
  have h:HpAt a4 b {y with sp:=y.sp.ended t,ep:=IntKind.wrap .u64 (y.ep+1)}:=bY
  rw[K,hy]at h
  exact h
 have dv:G.cf=x9.sp.cf:=W.cf
 have dw:(u.ended t).cf<=x9.sp.cf+1024:=by
  have h1:=Sp.ended_cf u t
  have h2:u.cf=G.cf:=by
   rw[af]
   have sm:=lh t.old (G.mem.weaks t ah) G.mem
   unfold Sp.cf
   show(((G.mem.weaks t ah).foldl (brkR t.old) G.mem).count)+_=_
   rw[sm.count,sm.free]
  omega
 have eP:=bM.size
 have eT:=ao.size
 have eV:=b9.size
 have eW:=bc.size
 have eX:=a7.size
 have I: ∀{A A':zV},Fr (spB b) A A'->Fr (b.all++q.all) A A':=λf=>f.mono (λi hi _=>List.mem_append_left _ (J i hi))
 have ab: ∀{A A':zV},Fr (q.s::spB b) A A'->Fr (b.all++q.all) A A':=λf=>f.mono (λi hi _=>by
  rcases List.mem_cons.1 hi with h | h
  ·exact List.mem_append_right _ (h▸bl)
  ·exact List.mem_append_left _ (J i h))
 have X:Fr (b.all++q.all) cp a4:=cL.mono (λi hi _=>by
  rcases List.mem_cons.1 hi with h | hi
  ·exact List.mem_append_left _ (by rw[h];simp[Blk.all])
  rcases List.mem_cons.1 hi with h | hi
  ·exact List.mem_append_right _ (by rw[h];simp[TB.all])
  ·exact List.mem_append_left _ (J i hi))
 have ba:Fr (b.all++q.all) b5 co:=((((((I a8).trans (I ap)).trans (I au)).trans (ab av)).trans a6.fr).trans (ab a9)).trans (I aw)
 have F:Fr (b.all++q.all) b5 a4:=((ba.trans (I bc)).trans a7.fr).trans X
 have cr:Ext H a4:=d.e.fr_trans F (λi hi=>by
  rcases List.mem_append.1 hi with h | h
  ·exact d.hb i h
  ·have:=ae i h;have:=d.e.size;omega)
 have a1: ∀{p:zW},(∀j∈blks p,cn.size<=j)-> ∀j∈blks p,j ∉ b.all++q.all:=λh j o hq=>by
  have:=h j o
  rcases List.mem_append.1 hq with h' | h'
  ·have:=a5.lt (.inl h');omega
  ·have:=a5.lt (.inr h');omega
 have bb:Fr (b.all++q.all) bu a4:=(((I aw).trans (I bc)).trans a7.fr).trans X
 have aS:=Y.keep bb (a1 (λj o=>by have:=Z j o;omega))
 have aL:=(bk.ext a7).keep X (a1 (λj o=>by have:=ay j o;omega))
 have dK:=d.e.size
 exact⟨⟨k+1,rfl,by omega,{x9 with sp:=u.ended t,ep:=IntKind.wrap .u64 (x9.ep+1)},szE t.old ce,L5,(z.filter (reachedB t.old u.mem)).map (Fw t.old U),outL t.old U m l,rfl,rfl,⟨cr,bj,I5,G5,P5,aL,λw O=>(M5 w O).1,aS,E5,d.hb,λj o=>⟨by have:=ay j o;omega,λh=>a1 (p:=pB) (λj o=>by have:=ay j o;omega) j o (List.mem_append_left _ h)⟩,λj o=>⟨by have:=Z j o;omega,λh=>a1 (p:=gB) (λj o=>by have:=Z j o;omega) j o (List.mem_append_left _ h),λh=>by
  have h1:=ay j h
  have h2:=Y.lt j o
  have h3:=aw.size
  omega⟩⟩,by show(u.ended t).cf<=_;omega,by rw[List.length_map];omega,by rw[bm,kJ];omega⟩,hd⟩
set_option maxRecDepth 100000 in
theorem lifted(i:Os)(b:i.Started)(H:Type)(enc:TypeId×Value->H)(F:Stop.Interp):
  ReturnsInHanded {} Tryz.checked i 5 .any ((Rows.OpenSpec.upto Rows.weakGuardsSpec).pre6 enc prog f5 Rows.weakGuardsUptoRow.domain false) (((Rows.OpenSpec.upto Rows.weakGuardsSpec).at F).post enc prog f5 false true false false):=by
 refine mq (tb:=4) b (by kernel_rfl) func5
  (OpenSpec.witness (enc:=enc) (C:=Tryz.checked) (s:=Rows.OpenSpec.upto Rows.weakGuardsSpec) (k:=Rows.uptoSmall) rfl false ⟨#[],#[vi 0,vN],[]⟩ 8 (by kernel_rfl) (by kernel_rfl) (by kernel_rfl)
   (x:=([.lit (.int .i64 0),.nil],[],[])) (by kernel_rfl) rfl (by kernel_rfl))
  rfl (by kernel_rfl) rfl underlying4 (λg e=>?_) ?_
 ·match g,e with
  | [n,o],_=>rfl
 intro W f args g p a h c
 rw[params5]at h a
 obtain⟨j,z,n,q,G,J,d,rfl,rfl,t,v⟩:=trodAll_cons h
 obtain⟨l,A,o,r,I,K,rfl,rfl,rfl,u,w⟩:=trodAll_cons v
 obtain⟨rfl,rfl,rfl⟩:=trodAll_nil w
 obtain rfl:args= #[j,l]:=by cases args;simp_all
 obtain⟨m,rfl,rfl,rfl,D⟩:=open_int underlying3 (a 0 3 j rfl rfl) t
 obtain⟨y,rfl,E⟩:=rE underlying56 (by kernel_rfl) ms (B:=1048576) (.inr (Nat.le_trans (lS (by simp)) c)) (a 1 56 l rfl rfl) u
 exact law m y W.heap (wf_i64 D) E
theorem over:Rows.weakGuardsUptoRow.holds Tryz.pinned (Rows.OpenSpec.upto Rows.weakGuardsSpec):=
 OpenClaim.holds_of_cond 5 f5 rfl rfl rfl rfl rfl rfl rfl ⟨rfl,rfl,rfl,rfl,rfl⟩ rfl rfl rfl rfl rfl (by kernel_rfl) func5 (by kernel_rfl)
  (of_decide_eq_true (by kernel_rfl)) (by unfold Func.isWrapper;first | (rw[if_pos (by decide+kernel)];kernel_rfl) | (rw[if_neg (by decide+kernel)];exact⟨rfl,rfl⟩))
  (λc a H b _ F=>lifted c a H b F)
theorem proved:Rows.WeakGuardsUptoSaid:=
 over
#print axioms proved
end Go.Proofs.YtfhbhckhmnleoaaGreat.weakGuards
