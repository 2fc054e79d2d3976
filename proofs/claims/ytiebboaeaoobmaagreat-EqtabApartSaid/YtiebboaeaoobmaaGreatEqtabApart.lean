/- The law EqtabApart of morainelaw15 holds: called with any arguments it answers true and leaves what it was handed as it was. No condition. -/
import Derived.Test.YtiebboaeaoobmaaGreatTabM
import Derived.Test.YtiebboaeaoobmaaGreatTabP
import Derived.Test.YtiebboaeaoobmaaGreatAct15
set_option linter.unusedVariables false
set_option linter.unusedSimpArgs false
namespace Go.Proofs.YtiebboaeaoobmaaGreat.eqtabApart
open Go Go.Proofs.YtiebboaeaoobmaaGreat
open Go.ChangeShapes Go.WideShapes Go.ChangeAt Go.RowKit

theorem own_src{H:zV}{T:TypeId}{B:zW}{n c:Nat}{ws:List Int}(h:Own H T 1 B n c (wvs ws)){i:Nat}(hi:i<ws.length): ∃a,B=some a/\hat H (a.add (i*1))=some (.int .u64 ws[i]):=by
 rw[Nat.mul_one]
 exact h.at (wvs_at hi)
set_option maxRecDepth 100000 in
set_option maxHeartbeats 2000000 in
theorem law(l m:Sl CallOf)(H:zV)(Al:SlOK 5 callOfR maxLen H l)(Am:SlOK 5 callOfR maxLen H m):
  morainelaw15_EqtabApart.C l.p l.n l.c m.p m.n m.c H (λv H'=>v=.bool true/\Ext H H'):=by
 refine HC.via λR hR=>morainelaw15_EqtabApart.link ?_
 unfold morainelaw15_EqtabApart.pt zY
 have awk: ∀{A:zV},Ext H A->morainelaw15_awake.C A (λv H1=> ∃x:Bool,v=.bool x/\R (.bool x) H1):=λ{A} e=>by
  refine HC.mono awake15_c ?_
  rintro _ H1 ⟨rfl,e1⟩
  exact⟨_,rfl,hR _ _ ⟨rfl,e.trans e1⟩⟩
 by_cases hn:((decide ((l.n:Int)>150)) || (decide ((m.n:Int)>150)))=true
 ·rw[if_pos hn];exact awk (Ext.refl H)
 rw[if_neg hn]
 have hll:=Al.len
 have hml:=Am.len
 have hl150:l.n<=150/\m.n<=150:=by simp at hn;omega
 refine HC.mono (begun_c J1_ok J1_fresh) ?_
 rintro _ H2 ⟨bk,x0,G0,f0,th0,t,W0',P,q,keys,rfl,S0,hep,hfr,-,-⟩
 refine⟨_,rfl,?_⟩
 rw[onPtr_some]
 have hkl:=S0.play.len
 have hkw:=S0.kw
 have hnod:=S0.nod
 have hblt:=S0.ts.hs.blt
 have hP:=lt_size S0.play.cell
 have hq:=lt_size S0.ref.cell
 obtain⟨hPb,hqb,hPq,-,-⟩:=S0.dis
 have z2:=S0.ts.hs.e.size
 have hPs:P ∉ [bk.sp,bk.m,bk.s]:=λh=>hPb (sub_all h)
 have hqs:q ∉ [bk.sp,bk.m,bk.s]:=λh=>hqb (sub_all h)
 refine⟨_,S0.play.heap,?_⟩
 refine HC.mono (New_c J1_ok S0.ts.hs (by omega) (by omega)) ?_
 rintro _ H3 ⟨t2,vb2,x1,G1,th1,rfl,T2,R2,r1,gg1,gt2,wt2,-,ft2,fvb2,hth,fr3⟩
 refine⟨_,_,rfl,?_⟩
 rw[if_pos rfl]
 have z3:=fr3.size
 have ht0:=S0.ts.tb.tab
 have hv0:=S0.ts.tb.vec
 have D0:Two f0 th1 t2 [] (W0 vb2) t (8*x0.ep) [] W0':=by
  refine⟨S0.ts.tb.cong (λ_ _=>rfl) (λ_ _ _ _=>rfl) (λ_ _=>rfl) (hth _ (by rw[ht0];simp)) (hth _ (by rw[hv0];simp)),S0.ts.right rfl,λu hu=>?_,⟨λe=>?_,λe=>?_,λe=>?_,λe=>?_⟩⟩
  ·rcases hu with⟨y,hy,_⟩ | ⟨p,hp,_⟩ | ⟨i,_,p,hp,_⟩
   ·cases hy
   ·cases hp
   ·cases hp
  ·rw[e,ft2]at ht0;cases ht0
  ·have e:t=vb2:=e
   rw[e,fvb2]at ht0;cases ht0
  ·rw[e,ft2]at hv0;cases hv0
  ·have e:W0'.vb=vb2:=e
   rw[e,fvb2]at hv0;cases hv0
 have nb: ∀j,j∈[bk.sp,bk.m,bk.s]->j<H2.size:=λj hj=>hblt j (sub_all hj)
 refine⟨λi A=> ∃(k:Nat) (x:Hp) (G:Int->Prop) (f:PF) (th:TF) (E2:List Ent) (W2:TW),i=k/\k<=m.n/\TS J1 H A bk x G f th t2 (8*x.ep) E2 W2/\x.ep=x0.ep/\E2.length<=k/\Two f th t2 E2 W2 t (8*x0.ep) [] W0'/\PlayAt A P bk t keys q/\RefT A q none 0 [],λi _=>((m.n:Int)-i).toNat,
  ⟨0,x1,G1,f0,th1,[],W0 vb2,rfl,by omega,T2,r1.ep,by simp,D0,S0.play.keep fr3 hPs,S0.ref.keep fr3 (λj hj=>⟨λe=>hqs (e▸hj),by simp⟩)⟩,?_⟩
 rintro _ A ⟨k,x,G,f,th,E2,W2,rfl,hkn,T,hepx,hE2,D,pl,rf⟩
 have hd:k<m.n->((m.n:Int)-((k+1:Nat):Int)).toNat< ((m.n:Int)-(k:Int)).toNat:=λh=>by omega
 have hw:IntKind.wrap .i64 ((k:Int)+1)=((k+1:Nat):Int):=by rw[w64 (n:=(k:Int)+1) (by omega)];omega
 have zA:=T.hs.e.size
 have hPA:=lt_size pl.cell
 by_cases hlt:(k:Int)< (m.n:Int)
 ·rw[if_pos hlt]
  obtain⟨a,ha,hrow⟩:=(Am.ext T.hs.e).row k (by omega)
  generalize m.xs[k]'(by omega)=cl at hrow
  refine⟨a,ha,⟨by omega,hlt⟩,cl.what,cl.key,cl.value,cl.gen,cl.up,by rw[show Int.toNat (k:Int)=k by omega];exact hrow,?_⟩
  intro b H5 hb hH5
  have e5:Ext A H5:=Ext.push' hH5
  obtain⟨hcp,hs⟩:=box_set (vs:=[.int .i64 cl.what,.int .i64 cl.key,.int .i64 cl.value,.int .i64 cl.gen,.bool cl.up]) (push_get hb hH5) rfl rfl
  refine⟨hcp,λH6 hH6=>?_⟩
  obtain⟨g6,f6⟩:=hs H6 hH6
  have e6:Ext A H6:=e5.fr_trans f6 (λj hj=>by simp at hj;omega)
  refine⟨_,hat_blk g6,?_⟩
  refine HC.mono (at_c (x:=cl.what) (n:=6) (by decide)) ?_
  rintro _ H7 ⟨rfl,rfl⟩
  have T6:=T.ext e6
  have pl6:=pl.ext e6
  have rf6:=rf.ext e6
  refine⟨_,rfl,?_⟩
  rw[hw]
  by_cases hw2:atR cl.what 6<2
  case neg=>
   rw[if_neg hw2]
   exact⟨⟨k+1,x,G,f,th,E2,W2,rfl,by omega,T6,hepx,by omega,D,pl6,rf6⟩,hd (by omega)⟩
  rw[if_pos hw2]
  have hk:=atR_rng (x:=cl.key) (n:=40) (by decide)
  have hv:=atR_rng (x:=cl.value) (n:=1000) (by decide)
  have hkey:=pl6.key (i:=(atR cl.key 40).toNat) (by omega)
  have hval:hat H7 ((Addr.mk b 0 none).add 2)=some (.int .i64 cl.value):=by rw[box_get g6];rfl
  refine⟨_,pl6.heap,cl.key,by rw[box_get g6];rfl,cl.value,hval,?_⟩
  refine HC.mono (at_c (x:=cl.key) (n:=40) (by decide)) ?_
  rintro _ H8 ⟨rfl,rfl⟩
  refine⟨_,rfl,rowH pl6.heap,rowH hval,hk,_,hkey,?_⟩
  refine HC.mono (at_c (x:=cl.value) (n:=1000) (by decide)) ?_
  rintro _ H9 ⟨rfl,rfl⟩
  refine⟨_,rfl,rowH hkey,rowH pl6.heap,?_⟩
  refine HC.mono (lfix_c hv) ?_
  rintro _ H10 ⟨rfl,rfl⟩
  refine⟨_,rfl,rowH hkey,rowH pl6.heap,?_⟩
  rw[kOf_get hkl hk]
  have hkm:=hkw _ (kOf_mem hkl hk)
  have gAll:=T.hs.j.2.2.2
  refine HC.mono (Put_c J1_ok T6 rfl hkm.1 (isW8 (n:=atR cl.value 1000) (by omega)) (gAll _) (gAll _) (by omega)) ?_
  rintro _ H11 ⟨r,x2,G2,f2,th2,E3,W3,rfl,P1,c1,c2⟩
  have pl11:=pl6.keep P1.fr hPs
  refine⟨_,rfl,by have:=rowH (pl11.key (i:=(atR cl.key 40).toNat) (by omega));rw[kOf_get hkl hk]at this;exact this,?_⟩
  by_cases hr:r=0
  case neg=>rw[if_neg hr];exact awk P1.ts.hs.e
  rw[if_pos hr]
  have hE3:E3.length<=k+1:=by
   by_cases hin: ∃y∈E2,y.k=kOf keys (atR cl.key 40)
   ·obtain⟨_,rfl⟩:=c1 hin
    unfold setV;simp;omega
   ·rcases c2 (λy hy e=>hin ⟨y,hy,e⟩)with⟨_,e,rfl⟩ | ⟨_,rfl,_⟩
    ·simp;omega
    ·omega
  exact⟨⟨k+1,x2,G2,f2,th2,E3,W3,rfl,by omega,P1.ts,P1.rest.ep.trans hepx,hE3,D.mv P1.mv,pl11,rf6.keep P1.fr (λj hj=>⟨λe=>hqs (e▸hj),by simp⟩)⟩,hd (by omega)⟩
 rw[if_neg hlt]
 refine⟨_,pl.heap,?_⟩
 refine HC.mono (Keys_c T (by omega)) ?_
 rintro _ H13 ⟨kB,kc,rfl,hok,hkB,e13⟩
 refine⟨_,_,_,_,rfl,_,(pl.ext e13).heap,?_⟩
 refine HC.mono (Values_c (T.ext e13) (by omega)) ?_
 rintro _ H14 ⟨vB,vc,rfl,hov,hvB,e14⟩
 refine⟨_,_,_,_,rfl,?_⟩
 have e1314:=e13.trans e14
 have hok14:=hok.ext e14
 have T14:=T.ext e1314
 have hepn:8*x.ep=8*x0.ep:=by rw[hepx]
 have D':Two f th t [] W0' t2 (8*x.ep) E2 W2:=by
  have:=D.swap T.tb (T.right rfl)
  exact this
 have P14:PS J1 H H14 bk x G f th t (8*x.ep) [] W0' P q keys none 0 []:=
  ⟨⟨T14.hs,by rw[hepn];exact D.tb,λ_=>D.right,T.ep,by simp⟩,pl.ext e1314,rf.ext e1314,⟨hPb,hqb,hPq,by simp,by simp⟩,⟨by have:=S0.ge.1;omega,by have:=S0.ge.2.1;omega,by simp⟩,⟨rfl,by simp⟩,λk hk=>⟨(hkw k hk).1,T.hs.j.2.2.2 _⟩,hnod⟩
 have zk: ∀j∈blks kB,A.size<=j/\j<H14.size:=λj hj=>⟨hkB j hj,by have:=hok.lt j hj;have:=e14.size;omega⟩
 have zv: ∀j∈blks vB,A.size<=j/\j<H14.size:=λj hj=>⟨by have:=hvB j hj;have:=e13.size;omega,hov.lt j hj⟩
 refine⟨λi A'=> ∃(k:Nat) (x:Hp) (G:Int->Prop) (f:PF) (th:TF) (E:List Ent) (W:TW) (B:zW) (c:Nat) (L:List (Int×Int)),i=k/\k<=l.n/\PS J1 H A' bk x G f th t (8*x.ep) E W P q keys B c L/\x.ep=x0.ep/\Two f th t E W t2 (8*x0.ep) E2 W2/\((∀j∈blks B,H14.size<=j)/\H14.size<=A'.size)/\Own A' 31 1 kB E2.length kc (wvs (E2.map Ent.k))/\Own A' 31 1 vB E2.length vc (wvs (E2.map Ent.v)),λi _=>((l.n:Int)-i).toNat,
  ⟨0,x,G,f,th,[],W0',none,0,[],rfl,by omega,P14,hepx,by rw[<-hepn];exact D',⟨by simp,Nat.le_refl _⟩,hok14,hov⟩,?_⟩
 rintro _ A' ⟨i,x',G',f',th',E,W,B,c,L,rfl,hi,S,hepx',D2,⟨hB,hAz⟩,hk',hv'⟩
 have hd2:i<l.n->((l.n:Int)-((i+1:Nat):Int)).toNat< ((l.n:Int)-(i:Int)).toNat:=λh=>by omega
 have hw2:IntKind.wrap .i64 ((i:Int)+1)=((i+1:Nat):Int):=by rw[w64 (n:=(i:Int)+1) (by omega)];omega
 by_cases hil:(i:Int)< (l.n:Int)
 ·rw[if_pos hil]
  obtain⟨a,ha,hrow⟩:=(Al.ext S.ts.hs.e).row i (by omega)
  generalize l.xs[i]'(by omega)=cl at hrow
  have hin:Int.toNat (i:Int)=i:=by omega
  have hwh:=rowAt_hat hrow 0 (.int .i64 cl.what) rfl
  rw[Nat.zero_add,addr_add2,Nat.add_zero]at hwh
  refine⟨a,ha,⟨by omega,hil⟩,cl.what,by rw[hin];exact hwh,?_⟩
  refine HC.mono (at_c (x:=cl.what) (n:=6) (by decide)) ?_
  rintro _ H16 ⟨rfl,rfl⟩
  refine⟨_,rfl,?_⟩
  rw[hw2]
  by_cases h5:atR cl.what 6=5
  ·rw[if_pos h5]
   exact⟨⟨i+1,x',G',f',th',E,W,B,c,L,rfl,by omega,S,hepx',D2,⟨hB,hAz⟩,hk',hv'⟩,hd2 (by omega)⟩
  rw[if_neg h5]
  refine⟨⟨by omega,hil⟩,cl.what,cl.key,cl.value,cl.gen,cl.up,by rw[hin];exact hrow,?_⟩
  refine HC.mono (call14_c J1_ok S h5) ?_
  rintro _ H17 ⟨x3,G3,f3,th3,E3,W3,B3,c3,L3,rfl,S3,mv,fr,hB3,-⟩
  refine⟨_,rfl,?_⟩
  rw[if_pos rfl]
  refine HC.mono (told15_c S3) ?_
  rintro _ H18 ⟨rfl,e18⟩
  refine⟨_,rfl,?_⟩
  rw[if_pos rfl]
  have zA':=hk'.lt
  have far: ∀j,A.size<=j->j<H14.size->j ∉ [bk.sp,bk.m,bk.s]++q::blks B:=λj h1 h2 h=>by
   rcases List.mem_append.1 h with h | h
   ·have:=T.hs.blt j (sub_all h);omega
   rcases List.mem_cons.1 h with h | h
   ·have:=lt_size rf.cell;omega
   ·have:=hB j h;omega
  refine⟨⟨i+1,x3,G3,f3,th3,E3,W3,B3,c3,L3,rfl,by omega,S3.ext e18,mv.rest.ep.trans hepx',D2.mv mv,⟨λj hj=>?_,by have:=fr.size;have:=e18.size;omega⟩,(hk'.keep fr (λj hj=>far j (zk j hj).1 (zk j hj).2)).ext e18,(hv'.keep fr (λj hj=>far j (zv j hj).1 (zv j hj).2)).ext e18⟩,hd2 (by omega)⟩
  rcases hB3 j hj with h | h
  ·exact hB j h
  ·omega
 rw[if_neg hil]
 have hep2:8*x'.ep=8*x0.ep:=by rw[hepx']
 have TS2:TS J1 H A' bk x' G' f' th' t2 (8*x'.ep) E2 W2:=⟨S.ts.hs,by rw[hep2];exact D2.tb,λ_=>D2.right,S.ts.ep,by omega⟩
 refine⟨_,S.play.heap,?_⟩
 refine HC.mono (Keys_c TS2 (by omega)) ?_
 rintro _ H19 ⟨kB2,kc2,rfl,hok2,hkB2,e19⟩
 refine⟨_,_,_,_,rfl,_,(S.play.ext e19).heap,?_⟩
 refine HC.mono (Values_c (TS2.ext e19) (by omega)) ?_
 rintro _ H20 ⟨vB2,vc2,rfl,hov2,hvB2,e20⟩
 refine⟨_,_,_,_,rfl,?_⟩
 rw[if_neg (by simp)]
 have e1920:=e19.trans e20
 refine⟨λi A''=>A''=H20/\0<=i/\i<=E2.length,λi _=>((E2.length:Int)-i).toNat,⟨rfl,by omega,by omega⟩,?_⟩
 rintro i3 _ ⟨rfl,hi0,hi1⟩
 by_cases h3:i3< (E2.length:Int)
 case neg=>rw[if_neg h3];exact awk (S.ts.hs.e.trans e1920)
 rw[if_pos h3]
 have hlk:i3.toNat< (E2.map Ent.k).length:=by simp;omega
 have hlv:i3.toNat< (E2.map Ent.v).length:=by simp;omega
 obtain⟨a1,ha1,v1⟩:=own_src (hk'.ext e1920) hlk
 obtain⟨a2,ha2,v2⟩:=own_src (hok2.ext e20) hlk
 obtain⟨a3,ha3,v3⟩:=own_src (hv'.ext e1920) hlv
 obtain⟨a4,ha4,v4⟩:=own_src hov2 hlv
 refine⟨a1,ha1,⟨hi0,h3⟩,_,v1,a2,ha2,⟨hi0,h3⟩,_,v2,?_⟩
 rw[if_pos rfl]
 refine⟨a3,ha3,⟨hi0,h3⟩,_,v3,a4,ha4,⟨hi0,h3⟩,_,v4,?_⟩
 rw[if_pos rfl,w64 (n:=i3+1) (by omega)]
 exact⟨⟨rfl,by omega,by omega⟩,by show((E2.length:Int)-(i3+1)).toNat< ((E2.length:Int)-i3).toNat;omega⟩
set_option maxRecDepth 100000 in
theorem lifted(os:Os)(started:os.Started)(H:Type)(enc:TypeId×Value->H):
  ReturnsInHanded {} Tryz.checked os 6 .any (Rows.eqtabApartSpec.pre6 enc Tryz.prog Tryz.f6 Rows.eqtabApartRow.domain false) (Rows.eqtabApartSpec.post enc Tryz.prog Tryz.f6 false true false false):=by
 refine law_lifted (tb:=4) started (by kernel_rfl) Tryz.func6
  (ChangeSpec.witness6 (enc:=enc) (C:=Tryz.checked) false ⟨#[],#[.slice none 0 0,.slice none 0 0],[]⟩ 8 (by kernel_rfl) (by kernel_rfl) (by kernel_rfl) (by kernel_rfl))
  rfl (by kernel_rfl) rfl Tryz.underlying4 (λds hds=>?_) ?_
 ·match ds,hds with
  | [d0,d1],_=>rfl
 intro W base args ds p hval hA _
 rw[Tryz.params6]at hA hval
 obtain⟨v0,vs0,d0,ds0,p0,q0,hargs,rfl,rfl,h0,r0⟩:=trodAll_cons hA
 obtain⟨v1,vs1,d1,ds1,p1,q1,rfl,rfl,rfl,h1,r1⟩:=trodAll_cons r0
 obtain⟨rfl,rfl,rfl⟩:=trodAll_nil r1
 obtain rfl:args= #[v0,v1]:=by cases args;simp_all
 obtain⟨s0,rfl,w0⟩:=open_read Tryz.underlying22 (by kernel_rfl) reads_CallOf (B:=maxLen) (.inl rfl) (hval 0 22 v0 rfl rfl) h0
 obtain⟨s1,rfl,w1⟩:=open_read Tryz.underlying22 (by kernel_rfl) reads_CallOf (B:=maxLen) (.inl rfl) (hval 1 22 v1 rfl rfl) h1
 exact law s0 s1 W.heap w0 w1

theorem over:Rows.eqtabApartRow.holds Tryz.pinned (OpenSpec.ofChange Rows.eqtabApartSpec):=
 OpenClaim.holds_of_wide 6 Tryz.f6 rfl rfl rfl rfl rfl rfl rfl ⟨rfl,rfl,rfl,rfl,rfl⟩ rfl rfl rfl rfl rfl (by kernel_rfl) Tryz.func6 (by kernel_rfl)
  (of_decide_eq_true (by kernel_rfl)) (by unfold Func.isWrapper;first | (rw[if_pos (by decide+kernel)];kernel_rfl) | (rw[if_neg (by decide+kernel)];exact⟨rfl,rfl⟩))
  (λos started H enc _=>lifted os started H enc)

theorem proved:Rows.EqtabApartSaid:=
 over
#print axioms proved
end Go.Proofs.YtiebboaeaoobmaaGreat.eqtabApart
