/- The law WeakBroken of morainelaw12 holds: called with any arguments it answers true and leaves what it was handed as it was. No condition. -/
import Derived.Test.YtfhbhckhmnleoaaGreatWbF
set_option linter.unusedVariables false
set_option linter.unusedSimpArgs false
namespace Go.Proofs.YtfhbhckhmnleoaaGreat.weakBroken
open Go Go.Proofs.Tryz Go.Proofs.YtfhbhckhmnleoaaGreat
open Go.ChangeShapes Go.WideShapes Go.ChangeAt Go.RowKit
theorem lh: ∀(l:List (Int×Int)) {s:Sp} (a:SpOK s),SpOK (s.agains l)
 | [],s,a=>a
 | c::l,s,a=>lh l (a.again c.1 c.2)
theorem qj{l a:List (Int×Int)}(h:a.map Prod.snd=l.map Prod.snd):a.length=l.length:=by
 have:=congrArg List.length h
 simpa using this
set_option maxRecDepth 100000 in
set_option maxHeartbeats 1000000 in
theorem law(f:Int)(p:zW)(n c:Nat)(xs:List Int)(gb:Bool)(H:zV)(hp:I64 f)(W:Nums H .i64 p n xs)(u:n<=maxLen):
  bJ.C f p n c gb H (λv H'=>v=vT/\Ext H H'):=by
 refine HC.via λR hR=>bJ.link ?_
 unfold bJ.pt zY
 refine HC.mono (lI (limit:=400) (by decide)) ?_
 rintro _ H1 (⟨hc,rfl,fa⟩ | ⟨hc,b,x0,rfl,V1,hx,fa,cO⟩)
 ·exact absurd (by decide) hc
 refine⟨_,_,rfl,?_⟩
 have cC: ∀{A:zV} {Q:Bool->zV->Prop},Ext H A->(∀A',Ext H A'->Q true A')->bD.C A (λv H1=> ∃x:Bool,v=.bool x/\Q x H1):=λ{A Q} e hQ=>by
  refine HC.mono oG ?_
  rintro _ H3 ⟨rfl,e3⟩
  exact⟨_,rfl,hQ _ (e.trans e3)⟩
 have ae:=W.len
 by_cases aw:(f<0\/f>1000)\/(n:Int)>1000
 ·rw[if_pos (by simpa using aw)]
  refine⟨λv A=>v=true/\Ext H A,?_,?_⟩
  ·rw[if_pos rfl]
   exact cC fa (λA' e=>⟨rfl,e⟩)
  ·rintro s A ⟨rfl,eA⟩
   exact hR _ _ ⟨rfl,eA⟩
 rw[if_neg (by simpa using aw)]
 have B0:Bd H H1 b x0 (λ_=>0) 400 (λ_=>0):=pE (l:=400) V1 hx fa cO
 refine⟨λli i A=> ∃k:Nat,i=k/\k<=n/\ ∃y sz Ls,BdL H A b y sz 400 (λj=>if j=0 then 4*k else 0) Ls/\li=bA Ls/\Ls.map Prod.snd=((xs.take k).map sh3).reverse,λ_ i _=>((n:Int)-i).toNat,
  ⟨0,rfl,by omega,x0,_,[],⟨B0.le (λj=>by show 0<=_;omega),trivial,λe z=>by simp at z,λe z=>by simp at z⟩,rfl,by simp⟩,?_⟩
 rintro li _ A ⟨k,rfl,hk,y,sz,Ls,BL,rfl,ao⟩
 by_cases bf:(k:Int)< (n:Int)
 ·rw[if_pos bf]
  have bW:k<xs.length:=by omega
  obtain⟨a,rfl,hat⟩:=(W.ext BL.bd.live.ext).at bW
  have hf:=BL.bd.cap.free BL.bd.live.ok
  simp only[if_pos,Nat.one_ne_zero,if_neg,Nat.reduceEqDiff,not_false_eq_true,if_false]at hf
  have hs:=pD xs[k]
  refine⟨a,rfl,⟨by omega,bf⟩,xs[k],by rw[show(k:Int).toNat*1=k*1 by omega];exact hat,?_⟩
  refine HC.mono (BL.bd.Cons (a:=sh3 xs[k]) (qr hs.1 (by omega) (by unfold isTag;omega)) (lg BL.row BL.good) (by omega) (by decide)) ?_
  rintro _ A1 ⟨w,y1,cp,rfl,B1,CA,D1,f1⟩
  rw[w64 (n:=(k:Int)+1) (by omega)]
  refine⟨_,_,rfl,⟨k+1,by omega,by omega,y1,cp,(w,sh3 xs[k])::Ls,⟨B1.le (λj=>?_),⟨CA.pr,BL.row.keep CA.made.keep⟩,λe z=>?_,λe z=>?_⟩,rfl,?_⟩,by show((n:Int)-((k:Int)+1)).toNat< ((n:Int)-(k:Int)).toNat;omega⟩
  ·show(if j=0 then(if j=0 then 4*k else 0)+4 else(if j=0 then 4*k else 0))<=if j=0 then 4*(k+1)else 0
   by_cases h0:j=0
   ·rw[if_pos h0,if_pos h0,if_pos h0];omega
   ·rw[if_neg h0,if_neg h0];omega
  ·rcases List.mem_cons.1 z with rfl | z
   ·exact D1.new.2
   ·exact D1.lift _ (BL.good e z)
  ·rcases List.mem_cons.1 z with rfl | z
   ·show ¬isTag (sh3 xs[k]);unfold isTag;omega
   ·exact BL.num e z
  ·rw[List.map_cons,ao,List.take_succ_eq_append_getElem bW,List.map_append,List.reverse_append];rfl
 rw[if_neg bf]
 obtain rfl:k=n:=by omega
 rw[show xs.take k=xs by rw[<-ae];exact List.take_length]at ao
 have hf:=BL.bd.cap.free BL.bd.live.ok
 simp only[if_pos,Nat.one_ne_zero,if_neg,Nat.reduceEqDiff,not_false_eq_true,if_false]at hf
 refine HC.mono (BL.bd.Cons (a:=12) (qr (by decide) (by decide) (by decide)) (lg BL.row BL.good) (by omega) (by decide)) ?_
 rintro _ A1 ⟨pw,y1,cp,rfl,B1,br,D1,f1⟩
 refine⟨_,_,rfl,?_⟩
 intro eQ A2 cP bL
 have e2:Ext A1 A2:=Ext.push' bL
 have d0:=B1.cap.free B1.live.ok
 simp only[if_pos,Nat.one_ne_zero,if_neg,Nat.reduceEqDiff,not_false_eq_true,if_false]at d0
 refine HC.mono ((B1.grow e2).guardian (by omega) (by decide) (kF (H0:=H) (aK cP bL))) ?_
 rintro _ A3 ⟨gw,y3,cq,rfl,B3,d2,c6,D3,f3⟩
 refine⟨_,_,rfl,?_⟩
 have r3:fV y3.sp.mem 1 Ls:=(BL.row.keep br.made.keep).keep c6.keep
 have g3: ∀e∈Ls,Good y3.sp.mem cq e.1:=λe z=>D3.lift _ (D1.lift _ (BL.good e z))
 refine⟨λro i A=> ∃j:Nat,i=j/\(j:Int)<=f/\ ∃y sz M,Bd H A b y sz 400 (λm=>if m=0 then 4*k+4 else if m=1 then 4*j else if m=2 then 6 else 0)/\WbAt y.sp.mem sz pw gw Ls M/\M.length=j/\ro=bA M,λ_ i _=>(f-i).toNat,
  ⟨0,rfl,by omega,y3,cq,[],B3.le (λm=>?_),⟨B3.cap.gen,r3,g3,BL.num,br.pr.keep c6.keep,D3.lift _ D1.new.2,d2,D3.new.2,trivial,λe z=>by simp at z,λe z=>by simp at z,by simp⟩,rfl,rfl⟩,?_⟩
 ·show(if m=2 then(if m=0 then(if m=0 then 4*k else 0)+4 else(if m=0 then 4*k else 0))+6 else(if m=0 then(if m=0 then 4*k else 0)+4 else(if m=0 then 4*k else 0)))<=if m=0 then 4*k+4 else if m=1 then 4*0 else if m=2 then 6 else 0
  by_cases h0:m=0
  ·subst h0;simp
  ·by_cases h2:m=2
   ·subst h2;simp
   ·simp[h0,h2]
 rintro ro _ A4 ⟨j,rfl,o,Y,eB,M,B4,g,bb,rfl⟩
 by_cases aQ:(j:Int)<f
 ·rw[if_pos aQ]
  have d1:=B4.cap.free B4.live.ok
  simp at d1
  refine HC.mono (B4.Weak (a:=pw) ⟨g.pr.word,g.pg⟩ (lg g.wk g.wkg) (by omega) (by decide)) ?_
  rintro _ A5 ⟨w,y5,dr,rfl,B5,CA,D5,f5⟩
  rw[w64 (n:=(j:Int)+1) (by omega)]
  have kp:=CA.made.keep
  refine⟨_,_,rfl,⟨j+1,by omega,by omega,y5,dr,(w,pw)::M,B5.le (λm=>?_),⟨B5.cap.gen,g.ls.keep kp,λe z=>D5.lift _ (g.lsg e z),g.lsv,g.pr.keep kp,D5.lift _ g.pg,g.gr.keep (λk=>(B4.live.ok.mem.seg k).n.2) kp,D5.lift _ g.gg,⟨CA.pr,g.wk.keep kp⟩,λe z=>?_,λe z=>?_,?_⟩,by simp[bb],rfl⟩,by show(f-((j:Int)+1)).toNat< (f-(j:Int)).toNat;omega⟩
  ·show(if m=1 then(if m=0 then 4*k+4 else if m=1 then 4*j else if m=2 then 6 else 0)+4 else(if m=0 then 4*k+4 else if m=1 then 4*j else if m=2 then 6 else 0))<=if m=0 then 4*k+4 else if m=1 then 4*(j+1)else if m=2 then 6 else 0
   by_cases h1:m=1
   ·subst h1;simp;omega
   ·simp[h1]
  ·rcases List.mem_cons.1 z with rfl | z
   ·exact D5.new.2
   ·exact D5.lift _ (g.wkg e z)
  ·rcases List.mem_cons.1 z with rfl | z
   ·rfl
   ·exact g.wkv e z
  ·rw[List.map_cons,List.nodup_cons]
   refine⟨λq=>?_,g.nd⟩
   obtain⟨e,z,q⟩:=List.mem_map.1 q
   obtain⟨d,P⟩:=g.wk.at' z
   have hu:=P.at'.used P.word
   have q:e.1=w:=q
   have:=CA.made.fresh 0 (by omega)
   rw[<-q]at this
   exact this (by simpa using hu)
 rw[if_neg aQ]
 have d4:(j:Int)=f:=by omega
 obtain⟨el,D⟩: ∃el,el=if gb=true then[(pw,gw)]else([]:List (Int×Int)):=⟨_,rfl⟩
 refine⟨λB N C A=>N=el.length/\Ext A4 A/\Own A 36 2 B N C (evs el)/\(∀j∈blks B,A4.size<=j),?_,?_⟩
 ·cases gb with
  | true=>
   rw[if_pos rfl]
   rw[if_pos rfl]at D
   subst D
   intro eT A5 cS bM
   have e5:Ext A4 A5:=Ext.push' bM
   refine fo (ys:=[vu pw,vu gw]) (m:=1) gH (iw (aK cS bM)) rfl rfl rfl (by decide) ?_
   intro B' c' A6 df f6 d9
   refine⟨rfl,e5.fr_trans f6 (λj o=>by simp at o),df,λj o=>?_⟩
   rcases d9 j o with q | q
   ·simp at q
   ·have:=e5.size;omega
  | false=>
   rw[if_neg (by decide)]
   rw[if_neg (by decide)]at D
   subst D
   exact⟨rfl,Ext.refl _,gH,λj o=>by simp at o⟩
 rintro fn eN eC A7 ⟨rfl,eb,c8,cU⟩
 have B7:=B4.grow eb
 have bi:eU Y.sp 0 1 1=0:=B7.cap.start B7.live.ok (by decide) (by
  simp
  omega)
 refine HC.mono (kM B7.live.at' B7.live.ok B7.inv.even (by rw[B7.cf];decide) (by decide) (by decide) (by decide)) ?_
 rintro v8 A8 ⟨-,ci⟩
 obtain⟨q,t,rfl,T8,Bg,cc,f8⟩:=ci bi
 refine⟨_,_,rfl,?_⟩
 rw[if_pos rfl]
 have K:t.tgt=1:=Bg.tgt
 have V:t.cards=[]:=by
  obtain⟨l,hl,e⟩:=Bg.cards
  rw[e]
  exact lf (λk hk=>by rw[B7.cap.gen k hk.2.2];decide) hl
 refine HC.mono (dZ T8 (w:=bA M) (g.heads _ (by simp)).1) ?_
 rintro _ A9 ⟨rfl,T9,fb⟩
 refine⟨_,rfl,?_⟩
 refine HC.mono (dZ T9 (w:=gw) (g.heads _ (by simp)).1) ?_
 rintro _ dS ⟨rfl,cz,b9⟩
 refine⟨_,rfl,?_⟩
 refine HC.mono (ix cz (Bg.seenOK B7.live.ok.mem) (by rw[K];decide)) ?_
 rintro _ bp ⟨s3,cj,bV,bc,cA,dk,ba⟩
 have bU:=B4.live.at'.lt
 have ay:=c8.lt
 have a0: ∀j∈spB b,j∈b.all:=λj o=>eR o
 have Z: ∀j∈blks fn,j ∉ b.all/\j ∉ q.all/\j<A7.size:=λj o=>⟨λh=>by have:=bU j h;have:=cU j o;omega,λh=>by have:=cc j h;have:=ay j o;omega,ay j o⟩
 have c7:Own bp 36 2 fn el.length eC (evs el):=(((c8.keep f8 (λj o h=>(Z j o).1 (a0 j h))).keep fb (λj o h=>(Z j o).1 (a0 j h))).keep b9 (λj o h=>(Z j o).1 (a0 j h))).keep ba (λj o h=>by
  rcases List.mem_cons.1 h with h | h
  ·exact(Z j o).2.1 (by rw[h];simp[TB.all])
  ·exact(Z j o).1 (a0 j h))
 have dR:A7.size<=bp.size:=by have:=f8.size;have:=fb.size;have:=b9.size;have:=ba.size;omega
 have cX: ∀e∈el,aB e.1/\aB e.2:=λe z=>by
  cases gb with
  | true=>rw[if_pos rfl]at D;subst D;simp at z;subst z;exact⟨g.pr.word,g.gr.word⟩
  | false=>rw[if_neg (by decide)]at D;subst D;simp at z
 have dG:el.length<=1:=by
  rw[D];split<;>simp
 refine HC.mono (lr cA dk (show 0<=t.tgt by rw[K];decide) c7.entries cX (λj o=>⟨by have:=(Z j o).2.2;omega,(Z j o).1,(Z j o).2.1⟩) (by omega)) ?_
 rintro _ dT ⟨I,k4,b2,gB,gC,bO,da,rfl,et,dJ,cB,dl,cH⟩
 refine⟨_,_,_,rfl,?_⟩
 refine HC.mono (iZ cB (Bg.frmOK B7.live.ok.mem) (by show jx t.cards;rw[V];intro c hc;cases hc)) ?_
 rintro _ dU ⟨S,ac,bw,cI⟩
 refine HC.mono (mG bw) ?_
 rintro _ aj ⟨aY,-,cJ⟩
 rw[K]at bV bc ac
 have ch:(Y.sp.fresh (bK 0)).visL t.old 1 [bA M,gw]=((((Y.sp.fresh (bK 0)).visit t.old 1 (bA M)).1.visit t.old 1 gw).1,[((Y.sp.fresh (bK 0)).visit t.old 1 (bA M)).2,(((Y.sp.fresh (bK 0)).visit t.old 1 (bA M)).1.visit t.old 1 gw).2]):=rfl
 have ax:dd t.old 1 ((Y.sp.fresh (bK 0)).visL t.old 1 [bA M,gw]).1 t.seen s3 cj:=by rw[ch];exact bV
 have key: ∃O G L f9,((Y.sp.fresh (bK 0)).visL t.old 1 [bA M,gw]).2=[bA G,O]/\outG t.old t.tgt I el b2=(I,[])/\pC (({I with mem:=(I.mem.weaks t S).foldl (brkR t.old) I.mem}:Sp).ended t).mem O G L M.length f9/\
   (gb=false->L=[]/\f9=44/\(({I with mem:=(I.mem.weaks t S).foldl (brkR t.old) I.mem}:Sp).ended t).mem.words [1]=2*M.length+3)/\
   (gb=true-> ∃np F,L=[(np,f9)]/\Pr (({I with mem:=(I.mem.weaks t S).foldl (brkR t.old) I.mem}:Sp).ended t).mem f9 1 12 (bA F)/\fV (({I with mem:=(I.mem.weaks t S).foldl (brkR t.old) I.mem}:Sp).ended t).mem 1 F/\F.map Prod.snd=Ls.map Prod.snd):=by
  cases gb with
  | false=>
   rw[if_neg (by decide)]at D
   subst D
   obtain⟨rfl,rfl,-⟩:=bO.nil
   have hl:de I.mem [1] S:=ac
   obtain⟨O,G,hv,E,dp⟩:=qh B7.inv g bi Bg V ax bc hl
   exact⟨O,G,[],44,hv,rfl,E,λ_=>⟨rfl,rfl,dp⟩,λh=>by cases h⟩
  | true=>
   rw[if_pos rfl]at D
   subst D
   have cN:Rdy t.old 1 [(pw,gw)] s3 cj (gE t.old s3.mem [(pw,gw)]) I k4 b2:=by
    have:=bO
    rw[K]at this
    exact this
   obtain⟨rfl,d5⟩:=qi B7.inv g bi Bg V ax bc cN da
   have hl:de I.mem [1] S:=ac
   obtain⟨O,G,p',F,np,hv,E,hP,hr,hm⟩:=d5 S hl
   refine⟨O,G,[(np,p')],p',hv,rfl,E,λh=>(by cases h),λ_=>⟨np,F,rfl,hP,hr,hm⟩⟩
 have bT: ∀j∈b.all,H.size<=j:=B7.live.young
 have ce: ∀j∈q.all,H.size<=j:=λj o=>by have:=cc j o;have:=B7.live.ext.size;omega
 have a8: ∀j∈spB b,H.size<=j:=λj o=>bT j (a0 j o)
 have cg: ∀j∈q.s::spB b,H.size<=j:=λj o=>by
  rcases List.mem_cons.1 o with h | h
  ·exact ce j (by rw[h];simp[TB.all])
  ·exact a8 j h
 have cw:Ext H aj:=((((((B7.live.ext.fr_trans f8 a8).fr_trans fb a8).fr_trans b9 a8).fr_trans ba cg).fr_trans cH cg).fr_trans cI a8).fr_trans cJ (λj o=>by
  rcases List.mem_cons.1 o with h | o
  ·exact bT j (by rw[h];simp[Blk.all])
  rcases List.mem_cons.1 o with h | o
  ·exact ce j (by rw[h];simp[TB.all])
  ·exact a8 j o)
 obtain⟨O,G,L,f9,dn,aX,E,U,X⟩:=key
 have b1:[((Y.sp.fresh (bK 0)).visit t.old 1 (bA M)).2,(((Y.sp.fresh (bK 0)).visit t.old 1 (bA M)).1.visit t.old 1 gw).2]=[bA G,O]:=by rw[<-dn,ch]
 have dj:((Y.sp.fresh (bK 0)).visit t.old 1 (bA M)).2=bA G:=(List.cons.inj b1).1
 have d3:(((Y.sp.fresh (bK 0)).visit t.old 1 (bA M)).1.visit t.old 1 gw).2=O:=(List.cons.inj (List.cons.inj b1).2).1
 have b4:=bw.ok
 rw[aX]at aY b4
 have b5:SpOK (({I with mem:=(I.mem.weaks t S).foldl (brkR t.old) I.mem}:Sp).ended t):=lh t.cards (Sp.gives_ok b4 t.old 1024)
 have bh:HpAt aj b {Y with sp:=({I with mem:=(I.mem.weaks t S).foldl (brkR t.old) I.mem}:Sp).ended t,ep:=IntKind.wrap .u64 (Y.ep+1)}:=aY
 generalize (({I with mem:=(I.mem.weaks t S).foldl (brkR t.old) I.mem}:Sp).ended t)=cn at*
 have bz:View aj (some ⟨b.h,0,none⟩) (some (b,{Y with sp:=cn,ep:=IntKind.wrap .u64 (Y.ep+1)})):=.real bh b5
 rw[aX]
 have em:L.length=el.length/\L.length<=1:=by
  cases gb with
  | false=>
   rw[if_neg (by decide)]at D
   rw[(U rfl).1,D];exact⟨rfl,by decide⟩
  | true=>
   rw[if_pos rfl]at D
   obtain⟨np,F,r,-⟩:=X rfl
   rw[r,D];exact⟨rfl,by simp⟩
 have di:(t.tgt=1):=K
 have eg:((((Y.sp.fresh (bK 0)).visit t.old t.tgt (bA M)).1.visit t.old t.tgt gw).2)=O:=by rw[K];exact d3
 have fr:((Y.sp.fresh (bK 0)).visit t.old t.tgt (bA M)).2=bA G:=by rw[K];exact dj
 refine HC.mono (show bP.C _ (((Y.sp.fresh (bK 0)).visit t.old t.tgt (bA M)).1.visit t.old t.tgt gw).2 aj _ from by rw[eg];exact qb bz E.gdw E.q (by omega)) ?_
 rintro _ b6 ⟨qB,qC,rfl,aV,dL,bC⟩
 refine⟨_,_,_,_,rfl,?_⟩
 rw[if_neg (by
  cases gb with
  | false=>rw[(U rfl).1];simp
  | true=>
   obtain⟨np,F,r,-⟩:=X rfl
   rw[r];simp)]
 have cx:Ext H b6:=cw.trans bC
 refine⟨λro i A=> ∃j:Nat,i=j/\(j:Int)<=f/\Ext b6 A/\ ∃l1 l2,G=l1++l2/\l1.length=j/\ro=bA l2,λ_ i _=>(f-i).toNat,
  ⟨0,rfl,by omega,Ext.refl _,[],G,rfl,rfl,fr⟩,?_⟩
 rintro _ _ ak ⟨r,rfl,er,a6,l1,l2,hs,bY,rfl⟩
 have bQ:=E.len
 have a2:=bz.ext (bC.trans a6)
 by_cases af:(r:Int)<f
 ·rw[if_pos af]
  cases l2 with
  | nil=>
   rw[List.append_nil]at hs
   subst hs;omega
  | cons e l2=>
  have P:=E.wk.mem l1 l2 e hs
  have z:e.2=f9:=E.car e (by rw[hs];simp)
  refine HC.mono (nG a2 P) ?_
  rintro _ al ⟨rfl,J⟩
  refine⟨_,_,rfl,?_⟩
  have ap: ∀{a1:zV},Ext ak a1->(∃j:Nat,IntKind.wrap .i64 ((r:Int)+1)=j/\(j:Int)<=f/\Ext b6 a1/\ ∃l1 ck,G=l1++ck/\l1.length=j/\bA l2=bA ck)/\(f-IntKind.wrap .i64 ((r:Int)+1)).toNat< (f-(r:Int)).toNat:=λ{a1} T=>by
   rw[w64 (n:=(r:Int)+1) (by omega)]
   exact⟨⟨r+1,by omega,by omega,a6.trans T,l1++[e],l2,by rw[hs];simp,by simp[bY],rfl⟩,by omega⟩
  cases gb with
  | true=>
   rw[if_pos rfl]
   obtain⟨np,F,rfl,-⟩:=X rfl
   obtain⟨a,rfl,hat⟩:=aV.at (j:=0) (v:=vu f9) rfl
   refine⟨a,rfl,⟨by simp,by simp⟩,f9,(a6.trans J).hat (by simpa using hat),?_⟩
   rw[if_pos z]
   refine HC.mono (ml (a2.ext J) P) ?_
   rintro _ a1 ⟨rfl,T⟩
   exact⟨_,_,rfl,ap (J.trans T)⟩
  | false=>
   rw[if_neg (by decide),if_pos (by rw[z];exact(U rfl).2.1)]
   refine HC.mono (ml (a2.ext J) P) ?_
   rintro _ a1 ⟨rfl,T⟩
   exact⟨_,_,rfl,ap (J.trans T)⟩
 rw[if_neg af]
 have d6:r=j:=by omega
 have d7:l2=[]:=by
  have:=congrArg List.length hs
  rw[List.length_append,bY,bQ,bb,d6]at this
  exact List.length_eq_zero_iff.1 (by omega)
 subst d7
 have b7:Ext H ak:=cx.trans a6
 cases gb with
 | false=>
  rw[if_neg (by decide)]
  refine⟨λv A=>v=true/\Ext H A,?_,?_⟩
  ·obtain⟨-,ag,-⟩:=a2.inv
   refine⟨_,rfl,_,ag.hPtr,_,rfl,_,ag.cd.cPtr,λb3 al cR av=>?_⟩
   have J:Ext ak al:=Ext.push' av
   have c9:=ag.ext J
   refine HC.mono (ln (gs:=[1]) c9.cd.sp b5 (show ec al (some ⟨b3,0,none⟩) (ivs [1])from⟨by rw[addr_add_mk,aG (aK cR av)];rfl,trivial⟩) rfl (by decide)) ?_
   rintro _ a1 ⟨rfl,T⟩
   refine⟨_,rfl,?_⟩
   have hw:=(U rfl).2.2
   rw[w64 (n:=2*f) (by omega),w64 (n:=2*f+3) (by omega)]
   rw[if_pos (by
    show cn.mem.words [1]=2*f+3
    rw[hw,bb,d4])]
   exact cC ((b7.trans J).trans T) (λA' e=>⟨rfl,e⟩)
  ·rintro s A ⟨rfl,eA⟩
   exact hR _ _ ⟨rfl,eA⟩
 | true=>
 rw[if_pos rfl]
 obtain⟨np,F,rfl,hP,dh,c5⟩:=X rfl
 obtain⟨a,rfl,hat⟩:=aV.at (j:=0) (v:=vu f9) rfl
 refine⟨a,rfl,⟨by simp,by simp⟩,f9,a6.hat (by simpa using hat),?_⟩
 refine HC.mono (nG a2 hP) ?_
 rintro _ al ⟨rfl,J⟩
 refine⟨_,_,rfl,⟨by simp,by simp⟩,f9,(a6.trans J).hat (by simpa using hat),?_⟩
 refine HC.mono (ml (a2.ext J) hP) ?_
 rintro _ a1 ⟨rfl,T⟩
 refine⟨_,_,rfl,?_⟩
 have bN:F.length=xs.length:=by rw[qj c5];have:=congrArg List.length ao;simpa using this
 have dH:(k:Int)<=1000:=by omega
 rw[w64 (n:=(k:Int)-1) (by omega)]
 refine⟨λro i A=> ∃j:Nat,j<=k/\i=(k:Int)-1-j/\Ext ak A/\ ∃l1 l2,F=l1++l2/\l1.length=j/\ro=bA l2,λ_ i _=>(i+1).toNat,
  ⟨0,by omega,by omega,J.trans T,[],F,rfl,rfl,rfl⟩,?_⟩
 rintro _ _ dW ⟨i,eq,rfl,an,m1,m2,a7,bg,rfl⟩
 have bB:=a2.ext an
 by_cases be:(k:Int)-1-(i:Int)>=0
 ·rw[if_pos be]
  cases m2 with
  | nil=>
   rw[List.append_nil]at a7
   subst a7;omega
  | cons e m2=>
  have P:=dh.mem m1 m2 e a7
  have eo:i<k:=by omega
  have az:k-1-i<xs.length:=by omega
  have cW:e.2=sh3 xs[k-1-i]:=by
   have h1:(F.map Prod.snd)[i]?=some e.2:=by
    rw[a7,List.map_append,List.getElem?_append_right (by rw[List.length_map];omega),List.length_map,bg,Nat.sub_self];rfl
   rw[c5,ao,List.getElem?_reverse (by rw[List.length_map];omega),List.length_map,List.getElem?_map,ae,List.getElem?_eq_getElem az]at h1
   exact(Option.some.inj h1).symm
  refine HC.mono (nG bB P) ?_
  rintro _ e0 ⟨rfl,b8⟩
  refine⟨_,_,rfl,?_⟩
  rw[if_pos rfl]
  obtain⟨e7,rfl,bS⟩:=(W.ext (b7.trans (an.trans b8))).at az
  refine⟨e7,rfl,⟨be,by omega⟩,xs[k-1-i],by rw[show((k:Int)-1-(i:Int)).toNat*1=(k-1-i)*1 by omega];exact bS,?_⟩
  rw[if_pos (show e.2=ishl .u64 (IntKind.wrap .u64 xs[k-1-i]) 3 from cW)]
  refine HC.mono (ml (bB.ext b8) P) ?_
  rintro _ e1 ⟨rfl,cF⟩
  refine⟨_,_,rfl,?_⟩
  rw[w64 (n:=(k:Int)-1-(i:Int)-1) (by omega)]
  exact⟨⟨i+1,by omega,by omega,an.trans (b8.trans cF),m1++[e],m2,by rw[a7];simp,by simp[bg],rfl⟩,by show((k:Int)-1-(i:Int)-1+1).toNat< ((k:Int)-1-(i:Int)+1).toNat;omega⟩
 rw[if_neg be,if_pos rfl]
 have d8:m2=[]:=by
  have:=congrArg List.length a7
  rw[List.length_append,bg,bN,ae]at this
  exact List.length_eq_zero_iff.1 (by omega)
 subst d8
 rw[if_pos (show bA []=20 from rfl),if_pos (show bA []=20 from rfl)]
 exact cC (b7.trans an) (λA' e=>hR _ _ ⟨rfl,e⟩)
set_option maxRecDepth 100000 in
theorem lifted(h:Os)(b:h.Started)(H:Type)(enc:TypeId×Value->H):
  ReturnsInHanded {} Tryz.checked h 4 .any (Rows.weakBrokenSpec.pre6 enc prog f4 Rows.weakBrokenRow.domain false) (Rows.weakBrokenSpec.post enc prog f4 false true false false):=by
 refine nA (tb:=4) b (by kernel_rfl) func4
  (ChangeSpec.witness6 (enc:=enc) (C:=Tryz.checked) false ⟨#[],#[vi 0,vN,vF],[]⟩ 8 (by kernel_rfl) (by kernel_rfl) (by kernel_rfl) (by kernel_rfl))
  rfl (by kernel_rfl) rfl underlying4 (λf d=>?_) ?_
 ·match f,d with
  | [q,r,s],_=>rfl
 intro W e args f p a g _
 rw[params4]at g a
 obtain⟨j,G,q,t,N,P,c,rfl,rfl,w,A⟩:=trodAll_cons g
 obtain⟨k,I,r,u,i,Q,rfl,rfl,rfl,x,D⟩:=trodAll_cons A
 obtain⟨l,J,s,v,O,R,rfl,rfl,rfl,y,E⟩:=trodAll_cons D
 obtain⟨rfl,rfl,rfl⟩:=trodAll_nil E
 obtain rfl:args= #[j,k,l]:=by cases args;simp_all
 obtain⟨m,rfl,rfl,rfl,K⟩:=open_int underlying3 (a 0 3 j rfl rfl) w
 obtain⟨i,z,o,M,rfl,L,F⟩:=oz underlying46 underlying2 (by kernel_rfl) (B:=maxLen) (.inl rfl) (a 1 46 k rfl rfl) x
 obtain⟨n,rfl,rfl,rfl⟩:=open_bool underlying4 (a 2 4 l rfl rfl) y
 exact law m i z o M n W.heap (wf_i64 K) L F
theorem over:Rows.weakBrokenRow.holds Tryz.pinned (OpenSpec.ofChange Rows.weakBrokenSpec):=
 OpenClaim.holds_of_wide 4 f4 rfl rfl rfl rfl rfl rfl rfl ⟨rfl,rfl,rfl,rfl,rfl⟩ rfl rfl rfl rfl rfl (by kernel_rfl) func4 (by kernel_rfl)
  (of_decide_eq_true (by kernel_rfl)) (by unfold Func.isWrapper;first | (rw[if_pos (by decide+kernel)];kernel_rfl) | (rw[if_neg (by decide+kernel)];exact⟨rfl,rfl⟩))
  (λc a H b _=>lifted c a H b)
theorem proved:Rows.WeakBrokenSaid:=
 over
#print axioms proved
end Go.Proofs.YtfhbhckhmnleoaaGreat.weakBroken
