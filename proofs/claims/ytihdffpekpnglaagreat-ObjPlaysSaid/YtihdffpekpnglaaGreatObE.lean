/-
 An act of morainelaw10, done on both heaps. Proves nothing of any one statement.
-/
import Derived.Test.YtihdffpekpnglaaGreatObD
set_option linter.unusedVariables false
set_option linter.unusedSimpArgs false
namespace Go.Proofs.YtihdffpekpnglaaGreat
open Go

structure Stepped (x x':Hp):Prop where
 ep:x'.ep=x.ep
 sy:x'.sy=x.sy
 en:x'.en=x.en
 cnt:x'.sp.mem.count<=x.sp.mem.count+1
theorem Stepped.same(x:Hp):Stepped x x:=⟨rfl,rfl,rfl,by omega⟩
theorem Sp.put_count{s:Sp}(ok:SpOK s)(kind tag:Int)(ws:List Int):(s.put kind tag ws).1.mem.count<=s.mem.count+1:=by
 unfold Sp.put
 split
 ·rename_i h
  have h1:=(Sp.alloc_ok ok h).2.count
  show(Mem.sets _ _ _).count<=_
  rw[(hC.sets _ _ _).count];exact h1
 ·show s.mem.count<=_;omega
theorem mj{b:Blk}{x:Hp}(ok:SpOK x.sp)(kind tag:Int)(ws:List Int): ∃x',putO (some (b,x)) kind tag ws=some (b,x')/\Stepped x x':=⟨_,rfl,rfl,rfl,rfl,Sp.put_count ok _ _ _⟩
theorem jC{b:Blk}{x:Hp}(ok:SpOK x.sp)(kind more:Int)(ws:List Int): ∃x',ii (some (b,x)) kind more ws=some (b,x')/\Stepped x x':=⟨_,(lR b x kind more ws).2,rfl,rfl,rfl,Sp.make_count ok kind more ws⟩
theorem pJ{b:Blk}{x:Hp}(ok:SpOK x.sp)(n fill:Int): ∃x',vecO (some (b,x)) n fill=some (b,x')/\Stepped x x':=by
 unfold vecO
 split
 ·exact⟨x,rfl,.same x⟩
 ·exact jC ok _ _ _
theorem pK{b:Blk}{x:Hp}(ok:SpOK x.sp)(s:ByteArray): ∃x',strO (some (b,x)) s=some (b,x')/\Stepped x x':=by
 unfold strO
 split
 ·exact⟨x,rfl,.same x⟩
 ·exact jC ok _ _ _
theorem pL{b:Blk}{x:Hp}(ok:SpOK x.sp)(neg:Bool)(ls:List Int): ∃x',bigO (some (b,x)) neg ls=some (b,x')/\Stepped x x':=by
 unfold bigO
 split
 ·exact⟨x,rfl,.same x⟩
 split
 ·exact⟨x,rfl,.same x⟩
 ·exact jC ok _ _ _
theorem pM{b:Blk}{x:Hp}(w k i v:Int): ∃x',setO (some (b,x)) w k i v=some (b,x')/\Stepped x x':=by
 refine⟨_,rfl,rfl,rfl,rfl,?_⟩
 show(if x.sp.mem.fieldE w k i=0 then(x.sp.mem.store (w / 8+1+i) v).1 else x.sp.mem).count<=_
 split
 ·rw[Mem.store_lim.2.2];omega
 ·omega
theorem oy{b:Blk}{x:Hp}(w i v:Int): ∃x',kx (some (b,x)) w i v=some (b,x')/\Stepped x x':=by
 refine⟨_,rfl,rfl,rfl,rfl,?_⟩
 show(if x.sp.mem.isPair w then(x.sp.mem.store (w / 8+i) v).1 else x.sp.mem).count<=_
 split
 ·rw[Mem.store_lim.2.2];omega
 ·omega
theorem nX(o:Option (Blk×Hp))(kind tag:Int)(ws:List Int):aM (putR o kind tag ws).1:=by
 unfold putR
 cases o with
 | none=>exact(by decide:aM 0)
 | some p=>
  obtain⟨b,x⟩:=p
  show aM (x.sp.put _ _ _).2.1
  unfold Sp.put
  split
  ·unfold iy
   split
   ·exact(by decide:aM 0)
   split
   ·constructor<;>(show _;simp only;omega)
   ·exact(by decide:aM 0)
  ·exact(by decide:aM 0)
theorem rq(o:Option (Blk×Hp))(n fill:Int):aM (vecR o n fill).1:=by
 unfold vecR
 split
 ·exact(by decide:aM 0)
 split
 ·exact(by decide:aM 0)
 ·exact ko _ _ _ _
theorem rt(o:Option (Blk×Hp))(s:ByteArray):aM (strR o s).1:=by
 unfold strR
 split
 ·exact(by decide:aM 0)
 ·exact ko _ _ _ _
theorem ru(o:Option (Blk×Hp))(neg:Bool)(ls:List Int):aM (bigR o neg ls).1:=by
 unfold bigR
 split
 ·exact(by decide:aM 0)
 split
 ·show aM (fixW _);unfold fixW;constructor<;>omega
 ·exact ko _ _ _ _
theorem tq{H0 H8:zW}{b:Blk}{x:Hp}{q:RB}{r:RM}{p:zY}{n c:Nat}{mw:List Int}{res:Int×Int}{R:zv}(B:Both H0 H8 b x q r)(M:iC H0 H8 b q r p n c mw)(hw:aM res.1)(hl:mw.length<=1000)
  (hR: ∀p' n' c' mw' H',Both H0 H' b x q r->iC H0 H' b q r p' n' c' mw'->mw'.length<=mw.length+1->R (.tuple #[.slice p' n' c',.bool true]) H'):
  if((res.1 !=res.1) || (res.2 !=res.2))=true then(
   R (.tuple #[.slice p n c,.bool false]) H8)
  else
  if res.2=0 then(
   ∀(b_3:Nat) (H9:zW),b_3=H8.size->H9=H8.push (.cells #[.int .u64 res.1] 33)->
   bW 1 33 8 [.int .u64 0] p n c (some (Addr.mk b_3 0 none)) 1 H9 (λap_2 apC_2 H10=>
    R (.tuple #[.slice ap_2 (n+1) apC_2,.bool true]) H10))
  else R (.tuple #[.slice p n c,.bool true]) H8:=by
 rw[if_neg (by simp)]
 by_cases h:res.2=0
 ·rw[if_pos h]
  intro b3 H9 hb hH
  refine M.snoc B hw hl hb hH ?_
  intro p' c' H' M' B'
  exact hR _ _ _ _ _ B' M' (by simp)
 ·rw[if_neg h]
  exact hR _ _ _ _ _ B M (by omega)

set_option maxRecDepth 100000 in
set_option maxHeartbeats 2000000 in
theorem pN{H0 H:zW}{b:Blk}{x:Hp}{q:RB}{r:RM}{p:zY}{n c:Nat}{mw:List Int}{rr:kH}(B:Both H0 H b x q r)(M:iC H0 H b q r p n c mw)(A:ow.ok maxLen H0 rr)(hl:rr.l.n<=200)(hsz:rr.s.size<=1000)(hmg:rr.num.mag.n<=60)(hmw:mw.length<=1000)(hcnt:x.sp.mem.count<4611686018427387904):
  dN.C (some ⟨b.h,0,none⟩) (some ⟨q.h,0,none⟩) rr.dov rr.x.w rr.x.ofv rr.y.w rr.y.ofv rr.kind rr.n rr.more rr.l.p rr.l.n rr.l.c rr.s rr.num.neg rr.num.mag.p rr.num.mag.n rr.num.mag.c p n c H (λv H'=> ∃p' n' c' x' r' mw',v=.tuple #[.slice p' n' c',.bool true]/\Both H0 H' b x' q r'/\iC H0 H' b q r' p' n' c' mw'/\mw'.length<=mw.length+1/\(x'.sy=x.sy/\x'.en=x.en)/\x'.sp.mem.count<=x.sp.mem.count+1):=by
 refine HC.via λR hR=>dN.link ?_
 unfold dN.pt zq
 intro b1 H1 hb1 hH1
 have e1:Ext H H1:=Ext.push' hH1
 have g1:=aO hb1 hH1
 have row1:=bQ (vs:=[.int .i64 rr.dov,.int .u64 rr.x.w,.int .i64 rr.x.ofv,.int .u64 rr.y.w,.int .i64 rr.y.ofv,.int .i64 rr.kind,.int .i64 rr.n,.int .u64 rr.more,.slice rr.l.p rr.l.n rr.l.c,.string rr.s,.bool rr.num.neg,.slice rr.num.mag.p rr.num.mag.n rr.num.mag.c]) g1
 have rX:=row1.sub (us:=[.int .u64 rr.x.w,.int .i64 rr.x.ofv]) 1 rfl
 have rY:=row1.sub (us:=[.int .u64 rr.y.w,.int .i64 rr.y.ofv]) 3 rfl
 have one: ∀{A:zW} {a:Addr} {v:Value},hat A a=some v->aG A a 0 [v]:=λh=>⟨by rw[js];exact h,trivial⟩
 refine⟨_,_,rX,_,_,rY,?_⟩
 have i_n:=wf_i64 A.n
 have i_kd:=wf_i64 A.kind
 have w_mo:aM rr.more:=wf_u64 A.more
 refine HC.mono (nt (wf_i64 A.x.ofv) (M.own.ext e1)) ?_
 rintro _ H2 ⟨rfl,e2⟩
 refine⟨_,rfl,e2.rowAt rY,?_⟩
 refine HC.mono (nt (wf_i64 A.y.ofv) (M.own.ext (e1.trans e2))) ?_
 rintro _ H3 ⟨rfl,e3⟩
 refine⟨_,rfl,?_⟩
 have e13:=e2.trans e3
 have g3:=e13.get g1
 have e03:=e1.trans e13
 have B3:=B.grow e03
 have M3:=M.grow e03
 have hwx:aM (ib rr.x.w rr.x.ofv mw):=kq (wf_u64 A.x.w) M.words
 have hwy:aM (ib rr.y.w rr.y.ofv mw):=kq (wf_u64 A.y.w) M.words
 generalize ib rr.x.w rr.x.ofv mw=wx at*
 generalize ib rr.y.w rr.y.ofv mw=wy at*
 have hbl: ∀i∈b.all,i<H.size:=λi hi=>B.live.at'.lt i hi
 have hql:=B.doc.lt
 have hs3:=e03.size
 have hownall: ∀(y:Hp) i,i∈own (some (b,y))->i∈b.all:=λy i hi=>by simp[own]at hi;simp[Blk.all];omega
 have hb1o: ∀y:Hp,b1 ∉ own (some (b,y)):=λy hm=>by have:=hbl _ (hownall y _ hm);omega
 have made: ∀(H6 H7:zW) (x':Hp) (res:Int×Int),Ext H3 H6->View H7 (some ⟨b.h,0,none⟩) (some (b,x'))->Fr (own (some (b,x))) H6 H7->Stepped x x'->aM res.1->
   ∀H8,ks H7 H8 q r x'.sp x.ep->Fr (q.all r) H7 H8->
   if((res.1 !=res.1) || (res.2 !=res.2))=true then(
    R (.tuple #[.slice p n c,.bool false]) H8)
   else
   if res.2=0 then(
    ∀(b_3:Nat) (H9:zW),b_3=H8.size->H9=H8.push (.cells #[.int .u64 res.1] 33)->
    bW 1 33 8 [.int .u64 0] p n c (some (Addr.mk b_3 0 none)) 1 H9 (λap_2 apC_2 H10=>
     R (.tuple #[.slice ap_2 (n+1) apC_2,.bool true]) H10))
   else R (.tuple #[.slice p n c,.bool true]) H8:=by
  intro H6 H7 x' res e6 V7 f7 stp hw H8 st8 f8
  have B6:=B3.grow e6
  obtain⟨L7,_⟩:=B6.left V7 f7
  obtain⟨r',B8,hall⟩:=Both.right L7 B.apart B.young stp.ep st8 f8
  have M8:=((M3.grow e6).keep (r':=r) f7 (λi hi=> .inl (hownall x i hi)) (λi hi=> .inl hi)).keep (r':=r') f8 (λi hi=> .inr hi) hall
  exact tq B8 M8 hw hmw (λp' n' c' mw' H' B' M' hle'=>hR _ _ ⟨p',n',c',x',r',mw',rfl,B',M',hle',⟨stp.sy,stp.en⟩,stp.cnt⟩)
 have stay: ∀(H6:zW) (v:Bool),v=true->Ext H3 H6->R (.tuple #[.slice p n c,.bool v]) H6:=λH6 v hv e6=>by
  subst hv
  exact hR _ _ ⟨p,n,c,x,r,mw,rfl,B3.grow e6,M3.grow e6,by omega,⟨rfl,rfl⟩,by omega⟩
 have setW: ∀(H6 H7 H8:zW) (x':Hp) (v:Bool),v=true->Ext H3 H6->View H7 (some ⟨b.h,0,none⟩) (some (b,x'))->Fr (own (some (b,x))) H6 H7->Stepped x x'->RHAt H8 q r x'.sp x.ep->Fr (q.all r) H7 H8->R (.tuple #[.slice p n c,.bool v]) H8:=by
  intro H6 H7 H8 x' v hv e6 V7 f7 stp h8 f8
  subst hv
  have B6:=B3.grow e6
  obtain⟨L7,_⟩:=B6.left V7 f7
  obtain⟨r',B8,hall⟩:=Both.right L7 B.apart B.young stp.ep (.same h8) f8
  have M8:=((M3.grow e6).keep (r':=r) f7 (λi hi=> .inl (hownall x i hi)) (λi hi=> .inl hi)).keep (r':=r') f8 (λi hi=> .inr hi) hall
  exact hR _ _ ⟨p,n,c,x',r',mw,rfl,B8,M8,by omega,⟨stp.sy,stp.en⟩,stp.cnt⟩
 have docAt: ∀(H6 H7:zW),Ext H3 H6->Fr (own (some (b,x))) H6 H7->RHAt H7 q r x.sp x.ep:=λH6 H7 e6 f7=>(B3.doc.ext e6).keep (Live.others f7) B.apart
 have boxAt: ∀(H6 H7:zW),Ext H3 H6->Fr (own (some (b,x))) H6 H7->H7[b1]?=H3[b1]?:=λH6 H7 e6 f7=>by
  rw[(f7.get (hb1o x) (e6.get g3)),g3]
 have V3:=B3.live.view
 have ok:=B.live.ok
 have hc:l3 (some (b,x)):=hcnt
 refine⟨rr.dov,by rw[aU g3];rfl,?_⟩
 by_cases h0:rr.dov=0
 ·rw[if_pos h0]
  refine HC.mono (lc V3 hwx hwy hc) ?_
  rintro _ H7 ⟨rfl,V7,f7⟩
  refine⟨_,_,rfl,?_⟩
  have T:=mf (b:=b) (wk:=false) (docAt _ _ (Ext.refl _) f7) ok hwx hwy
  simp only[Bool.false_eq_true,if_false]at T
  refine HC.mono T ?_
  rintro _ H8 ⟨rfl,st8,f8⟩
  refine⟨_,_,rfl,?_⟩
  obtain⟨x',hx',stp⟩:=mj (b:=b) ok 0 1 [wx,wy]
  rw[hx']at V7 st8
  exact made H3 H7 x' (putR (some (b,x)) 0 1 [wx,wy]) (Ext.refl _) V7 f7 stp (nX _ _ _ _) H8 st8 f8
 rw[if_neg h0]
 by_cases h1:rr.dov=1
 ·rw[if_pos h1]
  refine HC.mono (qe V3 hwx hwy hc) ?_
  rintro _ H7 ⟨rfl,V7,f7⟩
  refine⟨_,_,rfl,?_⟩
  have T:=mf (b:=b) (wk:=true) (docAt _ _ (Ext.refl _) f7) ok hwx hwy
  simp only[if_true]at T
  refine HC.mono T ?_
  rintro _ H8 ⟨rfl,st8,f8⟩
  refine⟨_,_,rfl,?_⟩
  obtain⟨x',hx',stp⟩:=mj (b:=b) ok 1 2 [wx,wy]
  rw[hx']at V7 st8
  exact made H3 H7 x' (putR (some (b,x)) 1 2 [wx,wy]) (Ext.refl _) V7 f7 stp (nX _ _ _ _) H8 st8 f8
 rw[if_neg h1]
 by_cases h2:rr.dov=2
 ·rw[if_pos h2]
  refine⟨_,_,_,by rw[aS g3];rfl,?_⟩
  refine HC.mono (rn (SlOK.ext A.l (B.live.ext.trans e03)) (by omega) (M.own.ext e03)) ?_
  rintro _ H4 ⟨qB,qc,rfl,how,e4,hqB⟩
  refine⟨_,_,_,rfl,?_⟩
  have g4:=e4.get g3
  have hws: ∀w∈(rr.l.xs.map λv=>ib v.w v.ofv mw),aM w:=λw hw=>by
   obtain⟨v,hv,rfl⟩:=List.mem_map.1 hw
   exact kq (wf_u64 (A.l.each v hv).w) M.words
  have hlen:rr.l.n=(rr.l.xs.map λv=>ib v.w v.ofv mw).length:=by rw[List.length_map];exact A.l.len.symm
  generalize (rr.l.xs.map λv=>ib v.w v.ofv mw)=ws at*
  have hle:ws.length<=200:=by omega
  refine⟨_,by rw[aS g4];rfl,_,by rw[aS g4];rfl,?_⟩
  intro b2 H5 hb2 hH5
  have e5:Ext H4 H5:=Ext.push' hH5
  have r5: ∀H',Ext H4 H'->aG H' ((Addr.mk b1 0 none).add 5) 0 [.int .i64 rr.kind]:=λH' e=>e.rowAt ((bQ g4).sub (us:=[.int .i64 rr.kind]) 5 rfl)
  have r7: ∀H',Ext H4 H'->aG H' ((Addr.mk b1 0 none).add 7) 0 [.int .u64 rr.more]:=λH' e=>e.rowAt ((bQ g4).sub (us:=[.int .u64 rr.more]) 7 rfl)
  refine⟨r5 _ e5,r7 _ e5,?_⟩
  refine tl how.src hlen (by omega) hb2 hH5 ?_
  intro ap apc H6 e6 hs6
  refine⟨r5 _ e6,r7 _ e6,?_⟩
  have e36:=e4.trans e6
  refine HC.mono (kg (V3.ext e36) hs6 (by omega) hws i_kd w_mo hc (by omega)) ?_
  rintro _ H7 ⟨rfl,V7,f7⟩
  have gg:=(boxAt _ _ e36 f7).trans g3
  have src7:cY H7 qB (wvs ws):=by
   have o7:=(how.ext e6).keep f7 (λi hi hm=>by have:=hqB i hi;have:=hbl _ (hownall x _ hm);omega)
   exact o7.src
  refine⟨_,_,rfl,_,by rw[aS gg];rfl,_,by rw[aS gg];rfl,?_⟩
  refine HC.mono (jA (b:=b) (docAt _ _ e36 f7) ok src7 hlen hws w_mo (by omega)) ?_
  rintro _ H8 ⟨rfl,st8,f8⟩
  refine⟨_,_,rfl,?_⟩
  obtain⟨x',hx',stp⟩:=jC (b:=b) ok rr.kind rr.more ws
  rw[hx']at V7 st8
  exact made H6 H7 x' (hZ (some (b,x)) rr.kind rr.more ws) e36 V7 f7 stp (ko _ _ _ _) H8 st8 f8
 rw[if_neg h2]
 by_cases h3:rr.dov=3
 ·rw[if_pos h3]
  refine⟨_,by rw[aS g3];rfl,?_⟩
  refine HC.mono (lw V3 hwx hc) ?_
  rintro _ H7 ⟨rfl,V7,f7⟩
  have gg:=(boxAt _ _ (Ext.refl _) f7).trans g3
  refine⟨_,_,rfl,_,by rw[aS gg];rfl,?_⟩
  refine HC.mono (nm (b:=b) (docAt _ _ (Ext.refl _) f7) ok hwx i_n) ?_
  rintro _ H8 ⟨rfl,st8,f8⟩
  refine⟨_,_,rfl,?_⟩
  obtain⟨x',hx',stp⟩:=pJ (b:=b) ok rr.n wx
  rw[hx']at V7 st8
  exact made H3 H7 x' (vecR (some (b,x)) rr.n wx) (Ext.refl _) V7 f7 stp (rq _ _ _) H8 st8 f8
 rw[if_neg h3]
 by_cases h4:rr.dov=4
 ·rw[if_pos h4]
  refine⟨_,by rw[aS g3];rfl,?_⟩
  refine HC.mono (lv V3 hc) ?_
  rintro _ H7 ⟨rfl,V7,f7⟩
  have gg:=(boxAt _ _ (Ext.refl _) f7).trans g3
  refine⟨_,_,rfl,_,by rw[aS gg];rfl,?_⟩
  refine HC.mono (np (b:=b) (docAt _ _ (Ext.refl _) f7) ok (by omega)) ?_
  rintro _ H8 ⟨rfl,st8,f8⟩
  refine⟨_,_,rfl,?_⟩
  obtain⟨x',hx',stp⟩:=pK (b:=b) ok rr.s
  rw[hx']at V7 st8
  exact made H3 H7 x' (strR (some (b,x)) rr.s) (Ext.refl _) V7 f7 stp (rt _ _) H8 st8 f8
 rw[if_neg h4]
 by_cases h5:rr.dov=5
 ·rw[if_pos h5]
  have hnum:=A.num
  have hlm: ∀z∈rr.num.mag.xs,fM z:=λz hz=>by
   have:=wf_u32 (hnum.mag.each z hz)
   exact⟨this.1,by have:=this.2;omega⟩
  have srcN: ∀{Hx:zW},Ext H0 Hx->cY Hx rr.num.mag.p (lvs rr.num.mag.xs):=λe=>(SlOK.ext hnum.mag e).nums.src
  refine⟨_,_,_,_,(bQ g3).sub (us:=[.bool rr.num.neg,.slice rr.num.mag.p rr.num.mag.n rr.num.mag.c]) 10 rfl,?_⟩
  refine HC.mono (qX V3 hc (srcN B3.live.ext) hnum.mag.len.symm hnum.mag.cap (by omega) hlm) ?_
  rintro _ H7 ⟨rfl,V7,f7⟩
  have gg:=(boxAt _ _ (Ext.refl _) f7).trans g3
  have e07:Ext H0 H7:=B3.live.ext.fr_trans f7 (λi hi=>B.live.young i (hownall x i hi))
  refine⟨_,_,rfl,_,_,_,_,(bQ gg).sub (us:=[.bool rr.num.neg,.slice rr.num.mag.p rr.num.mag.n rr.num.mag.c]) 10 rfl,?_⟩
  refine HC.mono (pH (b0:=b) (docAt _ _ (Ext.refl _) f7) ok (srcN e07) hnum.mag.len.symm hmg hlm) ?_
  rintro _ H8 ⟨rfl,st8,f8⟩
  refine⟨_,_,rfl,?_⟩
  obtain⟨x',hx',stp⟩:=pL (b:=b) ok rr.num.neg rr.num.mag.xs
  rw[hx']at V7 st8
  exact made H3 H7 x' (bigR (some (b,x)) rr.num.neg rr.num.mag.xs) (Ext.refl _) V7 f7 stp (ru _ _ _) H8 st8 f8
 rw[if_neg h5]
 refine⟨λs A=>A=H3/\(s=true ↔ (rr.dov=6\/rr.dov=7)),?_,?_⟩
 ·by_cases h6:rr.dov=6
  ·rw[if_pos h6];exact⟨rfl,λ_=> .inl h6,λ_=>rfl⟩
  ·rw[if_neg h6];exact⟨rfl,λhh=> .inr (by simpa using hh),λhh=>by rcases hh with hh | hh;exact absurd hh h6;simpa using hh⟩
 rintro s3 H31 ⟨hH31,hs31⟩
 obtain rfl:H3=H31:=hH31.symm
 by_cases h67:rr.dov=6\/rr.dov=7
 ·rw[if_pos (hs31.2 h67)]
  refine⟨rr.dov,by rw[aU g3];rfl,rr.dov,by rw[aU g3];rfl,?_⟩
  refine HC.mono (pG V3 hwx hwy h67) ?_
  rintro _ H5 ⟨rfl,V5,f5⟩
  have gg:=(boxAt _ _ (Ext.refl _) f5).trans g3
  refine⟨_,rfl,one (by rw[aU gg];rfl),?_⟩
  rw[w64 (n:=rr.dov-6) (by omega)]
  refine HC.mono (mn (b:=b) (docAt _ _ (Ext.refl _) f5) ok hwx hwy ⟨by omega,by omega⟩) ?_
  rintro _ H6 ⟨rfl,h6',f6⟩
  obtain⟨x',hx',stp⟩:=oy (b:=b) (x:=x) wx (rr.dov-6) wy
  rw[hx']at V5 h6'
  exact⟨_,rfl,setW H3 H5 H6 x' _ (beq_self_eq_true _) (Ext.refl _) V5 f5 stp h6' f6⟩
 rw[if_neg (λhh=>h67 (hs31.1 hh))]
 by_cases h8:rr.dov=8
 ·rw[if_pos h8]
  refine⟨_,by rw[aS g3];rfl,_,by rw[aS g3];rfl,_,by rw[aS g3];rfl,_,by rw[aS g3];rfl,?_⟩
  refine HC.mono (qS V3 hwx i_n hwy) ?_
  rintro _ H5 ⟨rfl,V5,f5⟩
  have gg:=(boxAt _ _ (Ext.refl _) f5).trans g3
  refine⟨_,rfl,(bQ gg).sub (us:=[.int .i64 rr.kind]) 5 rfl,(bQ gg).sub (us:=[.int .i64 rr.n]) 6 rfl,?_⟩
  refine HC.mono (pf (b:=b) (docAt _ _ (Ext.refl _) f5) ok hwx i_n hwy) ?_
  rintro _ H6 ⟨rfl,h6',f6⟩
  obtain⟨x',hx',stp⟩:=pM (b:=b) (x:=x) wx rr.kind rr.n wy
  rw[hx']at V5 h6'
  exact⟨_,rfl,setW H3 H5 H6 x' _ (beq_self_eq_true _) (Ext.refl _) V5 f5 stp h6' f6⟩
 rw[if_neg h8]
 by_cases h9:rr.dov=9
 ·rw[if_pos h9]
  refine⟨_,by rw[aS g3];rfl,_,by rw[aS g3];rfl,?_⟩
  refine HC.mono (nW V3 B3.doc hwx i_n) ?_
  rintro _ H5 ⟨rfl,e5⟩
  exact⟨_,rfl,stay _ _ rfl e5⟩
 rw[if_neg h9]
 by_cases h11:rr.dov=11
 case neg=>rw[if_neg h11];exact stay _ _ rfl (Ext.refl _)
 rw[if_pos h11]
 refine HC.mono (mW V3) ?_
 rintro _ H7 ⟨V7,f7⟩
 have hbh: ∀i∈hown (some (b,x)),i∈b.all:=λi hi=>by simp[hown]at hi;simp[Blk.all,hi]
 have docN:RHAt H7 q r x.sp x.ep:=B3.doc.keep f7 (λi hi hs=>B.apart i hi (hbh i hs))
 have gq:=docN.h
 refine⟨_,rfl,_,by rw[aS gq];rfl,?_⟩
 obtain⟨p1,p2⟩:=mr gq 1 (.int .u64 (IntKind.wrap .u64 (x.ep+1))) (by show 1<2;omega)
 refine⟨p1,λH38 hH38=>?_⟩
 obtain⟨g38,f38⟩:=p2 H38 hH38
 have V7':View H7 (some ⟨b.h,0,none⟩) (some (b,{x with ep:=IntKind.wrap .u64 (x.ep+1)})):=V7
 obtain⟨_,hp7,ok7⟩:=V7'.inv
 have hq:q.h∈q.all r:=by simp[RB.all]
 refine hR _ _ ⟨p,n,c,{x with ep:=IntKind.wrap .u64 (x.ep+1)},r,mw,rfl,⟨⟨hp7.keep f38 (λi hi=>by simp at hi;rw[hi];exact B.apart _ hq),ok7,(B3.live.ext.fr_trans f7 (λi hi=>B.live.young i (hbh i hi))).fr_trans f38 (λi hi=>by simp at hi;rw[hi];exact B.young _ hq),B.live.young⟩,
  ⟨docN.cd.keep f38 (by simp;exact λhh=>docN.ne.1 hh.symm) (by simp;exact λhh=>docN.ne.2.1 hh.symm) (λi hi hs=>by simp at hs;rw[hs]at hi;exact docN.ne.2.2 hi),g38,docN.ne⟩,B.apart,B.young⟩,(M3.keep (r':=r) f7 (λi hi=> .inl (hbh i hi)) (λi hi=> .inl hi)).keep (r':=r) f38 (λi hi=> .inr (by simp at hi;rw[hi];exact hq)) (λi hi=> .inl hi),by omega,⟨rfl,rfl⟩,by show x.sp.mem.count<=_;omega⟩
