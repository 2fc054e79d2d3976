/- The law EqtabFull of morainelaw15 holds: called with any arguments it answers true and leaves what it was handed as it was. No condition. -/
import Derived.Test.YtiebboaeaoobmaaGreatTabV
import Derived.Test.YtiebboaeaoobmaaGreatAct15
set_option linter.unusedVariables false
set_option linter.unusedSimpArgs false
namespace Go.Proofs.YtiebboaeaoobmaaGreat.eqtabFull
open Go Go.Proofs.YtiebboaeaoobmaaGreat
open Go.ChangeShapes Go.WideShapes Go.ChangeAt Go.RowKit

theorem na{α:Type}(J:Nat->α->Prop): ∃m:α->Nat,∀a,(∃n,J n a)->J (m a) a/\ ∀n,J n a->m a<=n:=by
 classical
 have key: ∀(n:Nat) (a:α),J n a-> ∃k,J k a/\ ∀n,J n a->k<=n:=by
  intro n
  induction n using Nat.strongRecOn with
  | ind n ih=>
   intro a hn
   by_cases q: ∃k,k<n/\J k a
   ·obtain⟨k,hk,h⟩:=q
    exact ih k hk a h
   ·exact⟨n,hn,λk hk=>by
     rcases Nat.lt_or_ge k n with h | h
     ·exact absurd ⟨k,h,hk⟩ q
     ·exact h⟩
 refine⟨λa=>if h: ∃k,J k a/\ ∀n,J n a->k<=n then h.choose else 0,λa ⟨n,hn⟩=>?_⟩
 have h:=key n a hn
 show J (if h: ∃k,J k a/\ ∀n,J n a->k<=n then h.choose else 0) a/\ ∀n,J n a->(if h: ∃k,J k a/\ ∀n,J n a->k<=n then h.choose else 0)<=n
 rw[dif_pos h]
 exact h.choose_spec
theorem nL{α:Type}{p q:α->Bool}: ∀{l:List α},(∀a∈l,p a=true->q a=true)->(∃a∈l,q a=true/\p a=false)->l.countP p<l.countP q
 | [],_,⟨a,h,_⟩=>by cases h
 | a::l,h,⟨c,hc,h1,h2⟩=>by
  rw[List.countP_cons,List.countP_cons]
  have hle:l.countP p<=l.countP q:=List.countP_mono_left (λb hb=>h b (by simp[hb]))
  rcases List.mem_cons.1 hc with rfl | hc
  ·rw[if_pos h1,if_neg (by rw[h2];decide)];omega
  ·have ih:=nL (l:=l) (λb hb=>h b (by simp[hb])) ⟨c,hc,h1,h2⟩
   have ha:=h a (by simp)
   by_cases q1:p a=true
   ·rw[if_pos q1,if_pos (ha q1)];omega
   ·rw[if_neg q1];omega
theorem cnt_lt{m m':Mem}(h: ∀a,m.used a->m'.used a){a:Int}(ha:m'.used a)(hn: ¬m.used a)(h64:0<=a/\a<65536):m.cnt (λ_=>true)<m'.cnt (λ_=>true):=by
 unfold Mem.cnt
 refine nL (λx _ q=>?_) ⟨a.toNat,?_,?_,?_⟩
 ·simp only[Bool.and_true,decide_eq_true_eq]at q⊢
  exact h _ q
 ·rw[List.mem_range,sV];omega
 ·simp only[Bool.and_true,decide_eq_true_eq]
  rw[show((a.toNat:Nat):Int)=a by omega];exact ha
 ·simp only[Bool.and_true,decide_eq_false_iff_not]
  rw[show((a.toNat:Nat):Int)=a by omega];exact hn
theorem tM(m:Mem):m.cnt (λ_=>true)<=tops:=by
 unfold Mem.cnt
 refine Nat.le_trans List.countP_le_length ?_
 rw[List.length_range]
 exact Nat.le_refl _
def Left(n:Nat)(C:Int)(H0 A:zV)(P:Nat)(r:Nat):Prop:= ∃(b:Blk) (x:Hp) (G:Int->Prop) (f:PF) (th:TF) (t e0:Int) (E:List Ent) (W:TW) (q:Nat) (keys:List Int) (B:zW) (c:Nat) (L:List (Int×Int)),
 PS (J2 C) H0 A b x G f th t (8*e0) E W P q keys B c L/\tops-x.sp.mem.cnt (λ_=>true)<=r
set_option maxRecDepth 100000 in
set_option maxHeartbeats 1000000 in
theorem law(l:Sl j5)(key val:Int)(H:zV)(Al:SlOK 5 qw maxLen H l)(_:I64 key)(_:I64 val):
  cD.C l.p l.n l.c key val H (λv H'=>v=.bool true/\Ext H H'):=by
 refine HC.via λR hR=>cD.link ?_
 unfold cD.pt zY
 have awk: ∀{A:zV},Ext H A->bM.C A (λv H1=> ∃x:Bool,v=.bool x/\R (.bool x) H1):=λ{A} e=>by
  refine HC.mono qK ?_
  rintro _ H1 ⟨rfl,e1⟩
  exact⟨_,rfl,hR _ _ ⟨rfl,e.trans e1⟩⟩
 by_cases hn:(l.n:Int)>100
 ·rw[if_pos hn];exact awk (Ext.refl H)
 rw[if_neg hn]
 have hll:=Al.len
 refine HC.mono m8 ?_
 rintro _ H2 ⟨P,rfl,S0⟩
 refine⟨_,rfl,?_⟩
 rw[onPtr_some]
 refine⟨λi A=> ∃k:Nat,i=k/\k<=l.n/\kj k H A P,λi _=>((l.n:Int)-i).toNat,⟨0,rfl,by omega,S0⟩,?_⟩
 rintro _ A ⟨k,rfl,hk,S⟩
 by_cases hlt:(k:Int)< (l.n:Int)
 ·rw[if_pos hlt]
  obtain⟨a,ha,hrow⟩:=(Al.ext S.e).row k (by omega)
  generalize l.xs[k]'(by omega)=cl at hrow
  refine⟨a,ha,⟨by omega,hlt⟩,cl.what,cl.key,cl.value,cl.gen,cl.up,by rw[show Int.toNat (k:Int)=k by omega];exact hrow,?_⟩
  refine HC.mono (se S (by omega)) ?_
  rintro _ A2 ⟨rfl,S2⟩
  refine⟨_,rfl,?_⟩
  rw[if_pos rfl]
  have hw:IntKind.wrap .i64 ((k:Int)+1)=((k+1:Nat):Int):=by rw[w64 (n:=(k:Int)+1) (by omega)];omega
  rw[hw]
  exact⟨⟨k+1,rfl,by omega,S2⟩,by show((l.n:Int)-((k+1:Nat):Int)).toNat< ((l.n:Int)-(k:Int)).toNat;omega⟩
 rw[if_neg hlt]
 have hCb:(200+1024*(k:Int))<4611686018427387904:=by omega
 generalize (200+1024*(k:Int))=C at hCb
 obtain⟨m,hm⟩:=na (λr A=>Left k (200+1024*k) H A P r)
 have O:JOK (J2 (200+1024*(k:Int))):=rY (by omega)
 refine⟨λA'=> ∃r,Left k (200+1024*k) H A' P r,m,?_,?_⟩
 ·obtain⟨b,x,G,f,th,t,e0,E,W,q,keys,B,c,L,S,h1,h2,hen,hsy⟩:=S
  exact⟨_,b,x,G,f,th,t,e0,E,W,q,keys,B,c,L,S,Nat.le_refl _⟩
 rintro A2 hA2
 obtain⟨hleft,hmin⟩:=hm A2 hA2
 obtain⟨b,x,G,f,th,t,e0,E,W,q,keys,B,c,L,S,hr⟩:=hleft
 refine⟨_,S.play.heap,?_⟩
 refine HC.mono (S.ts.hs.cons_c O iN iN (O.nil S.ts.hs.j) (O.nil S.ts.hs.j)) ?_
 rintro _ A3 ⟨w,er,x2,G2,rfl,r2,gg2,fr2,hcase⟩
 refine⟨_,_,rfl,?_⟩
 obtain⟨d1,d2,d3,d4,d5⟩:=S.dis
 have pl3:=S.play.keep fr2 (λh=>d1 (eG h))
 have rf3:=S.ref.keep fr2 (λj hj=>⟨λe=>d2 (e▸eG hj),λh=>d5 j h (eG hj)⟩)
 have hep2:=r2.ep
 have ps: ∀{f2:PF},HS (J2 (200+1024*k)) H A3 b x2 G2 f2 th->Tb f2 th t (8*e0) E W->PS (J2 (200+1024*k)) H A3 b x2 G2 f2 th t (8*e0) E W P q keys B c L:=λ{f2} h1 h2=>
  ⟨⟨h1,h2,λe=>S.ts.right (e.trans (by rw[hep2])),by rw[hep2];exact S.ts.ep,S.ts.few⟩,pl3,rf3,S.dis,S.ge,S.rel,λk hk=>⟨(S.kw k hk).1,gg2 k (S.kw k hk).2⟩,S.nod⟩
 rcases hcase with⟨rfl,fw,⟨ww,hnu,hnf⟩,S2⟩ | ⟨rfl,rfl,⟨_,hfull⟩,S2⟩
 ·rw[if_pos rfl]
  have S3:=ps S2 (S.ts.tb.grow fw)
  have hp:=S2.pic.prs w _ _ (PF.upd_at f w _)
  have hu:=hp.at'.used hp.word
  have hlim:=(O.ok S2.j).mem.lim
  have hub:=hu.2.1.2.1
  have hu0:=hu.1
  have hlt2:=cnt_lt r2.2.2.2.2.1 hu hnu ⟨hu0,by omega⟩
  have hle:=tM x2.sp.mem
  have hL:Left k (200+1024*k) H A3 P (tops-x2.sp.mem.cnt (λ_=>true)):=⟨b,x2,G2,_,th,t,e0,E,W,q,keys,B,c,L,S3,Nat.le_refl _⟩
  have hm3:=(hm A3 ⟨_,hL⟩).2 _ hL
  exact⟨⟨_,hL⟩,by omega⟩
 rw[if_neg (by decide)]
 have S3:=ps S2 S.ts.tb
 have hkl:=S3.play.len
 refine HC.mono (at_c (x:=key) (n:=40) (by decide)) ?_
 rintro _ H4 ⟨rfl,rfl⟩
 refine⟨_,rfl,?_⟩
 refine HC.mono (at_c (x:=val) (n:=1000) (by decide)) ?_
 rintro _ H5 ⟨rfl,rfl⟩
 have hk:=iF (x:=key) (n:=40) (by decide)
 have hv:=iF (x:=val) (n:=1000) (by decide)
 have hfew:=S3.few
 have hlen:=S3.len
 have hkey:=S3.play.key (i:=(atR key 40).toNat) (by omega)
 have hkm:=S3.kw _ (n9 hkl hk)
 have rl:=S3.rel.rl
 have hkeys:=S3.ts.tb.keys
 refine⟨_,rfl,_,S3.play.ref,?_⟩
 refine HC.mono (jz (key:=atR key 40) S3.ref (by omega)) ?_
 rintro _ H6 ⟨i,rfl,hF,rfl⟩
 refine⟨_,rfl,_,S3.play.heap,_,S3.play.table,hk,_,hkey,?_⟩
 refine HC.mono (kI hv) ?_
 rintro _ H7 ⟨rfl,rfl⟩
 refine⟨_,rfl,rowH S3.play.heap,rowH S3.play.table,rowH hkey,?_⟩
 rw[k7 hkl hk]
 refine HC.mono (tn O S3.ts hkm.1 (isW8 (n:=atR val 1000) (by omega)) hkm.2 (O.fix S3.ts.hs.j _) (by omega)) ?_
 rintro _ H8 ⟨r,x4,G4,f4,th4,E4,W4,rfl,P4,c1,c2⟩
 refine⟨_,rfl,?_⟩
 have pl8:=S3.play.keep P4.fr (λh=>d1 (eG h))
 have rf8:RefT H8 q B c L:=S3.ref.keep P4.fr (λj hj=>⟨λe=>d2 (e▸eG hj),λh=>d5 j h (eG hj)⟩)
 have fin: ∀{A:zV} {E5:List Ent} {B5:zW} {c5:Nat} {L5:List (Int×Int)},PS (J2 (200+1024*k)) H A b x4 G4 f4 th4 t (8*x4.ep) E5 W4 P q keys B5 c5 L5->bD.C (some ⟨P,0,none⟩) A (λv H13=> ∃x:Bool,v=.bool x/\if x=true then bM.C H13 (λv H14=> ∃x:Bool,v=.bool x/\R (.bool x) H14)else R (.bool false) H13):=λ{A E5 B5 c5 L5} S5=>by
  refine HC.mono (oT S5) ?_
  rintro _ A9 ⟨rfl,e9⟩
  refine⟨_,rfl,?_⟩
  rw[if_pos rfl]
  exact awk (S5.ts.hs.e.trans e9)
 rcases hF with⟨j,hj,rfl,hjk,_⟩ | ⟨rfl,hnoL⟩
 ·rw[if_pos (by omega)]
  obtain⟨hE,q1,q2,q3,q4⟩:=rl.nth hj
  rw[hjk]at q1
  have hin: ∃y∈E,y.k=kOf keys (atR key 40):=⟨_,List.getElem_mem hE,q1⟩
  obtain⟨rfl,rfl⟩:=c1 hin
  refine⟨_,pl8.ref,?_⟩
  refine HC.mono (oS rf8 (by omega)) ?_
  rintro _ H9 ⟨B',c',hr9,fr9,hB'⟩
  obtain⟨S9,_,_⟩:=S3.after P4.fr P4.ts hr9 fr9 hB' (rl.put S3.nod hkl hk hv hkeys hin).rel P4.gg
  rw[if_pos (by decide)]
  exact fin S9
 ·rw[if_neg (by decide)]
  have hno:=(rl.none S3.nod hkl hk).1 hnoL
  rcases c2 hno with⟨_,_,_,hnf⟩ | ⟨rfl,rfl,_⟩
  ·exact absurd hfull hnf
  rw[if_pos (by decide),if_pos rfl]
  obtain⟨S9,_,_⟩:=S3.after P4.fr P4.ts rf8 (Fr.refl _ _) (λj hj=> .inl hj) rl.rel P4.gg
  exact fin S9
set_option maxRecDepth 100000 in
theorem lifted(os:Os)(started:os.Started)(H:Type)(enc:TypeId×Value->H):
  ReturnsInHanded {} Tryz.checked os 4 .any (Rows.eqtabFullSpec.pre6 enc Tryz.prog Tryz.f4 Rows.eqtabFullRow.domain false) (Rows.eqtabFullSpec.post enc Tryz.prog Tryz.f4 false true false false):=by
 refine pS (tb:=4) started (by kernel_rfl) Tryz.func4
  (ChangeSpec.witness6 (enc:=enc) (C:=Tryz.checked) false ⟨#[],#[.slice none 0 0,.int .i64 0,.int .i64 0],[]⟩ 8 (by kernel_rfl) (by kernel_rfl) (by kernel_rfl) (by kernel_rfl))
  rfl (by kernel_rfl) rfl Tryz.underlying4 (λds hds=>?_) ?_
 ·match ds,hds with
  | [d0,d1,d2],_=>rfl
 intro W base args ds p hval hA _
 rw[Tryz.params4]at hA hval
 obtain⟨v0,vs0,d0,ds0,p0,q0,hargs,rfl,rfl,h0,r0⟩:=trodAll_cons hA
 obtain⟨v1,vs1,d1,ds1,p1,q1,rfl,rfl,rfl,h1,r1⟩:=trodAll_cons r0
 obtain⟨v2,vs2,d2,ds2,p2,q2,rfl,rfl,rfl,h2,r2⟩:=trodAll_cons r1
 obtain⟨rfl,rfl,rfl⟩:=trodAll_nil r2
 obtain rfl:args= #[v0,v1,v2]:=by cases args;simp_all
 obtain⟨s0,rfl,w0⟩:=qS Tryz.underlying22 (by kernel_rfl) om (B:=maxLen) (.inl rfl) (hval 0 22 v0 rfl rfl) h0
 obtain⟨a1,rfl,rfl,rfl,w1⟩:=open_int Tryz.underlying3 (hval 1 3 v1 rfl rfl) h1
 obtain⟨a2,rfl,rfl,rfl,w2⟩:=open_int Tryz.underlying3 (hval 2 3 v2 rfl rfl) h2
 exact law s0 a1 a2 W.heap w0 (wf_i64 w1) (wf_i64 w2)

theorem over:Rows.eqtabFullRow.holds Tryz.pinned (OpenSpec.ofChange Rows.eqtabFullSpec):=
 OpenClaim.holds_of_wide 4 Tryz.f4 rfl rfl rfl rfl rfl rfl rfl ⟨rfl,rfl,rfl,rfl,rfl⟩ rfl rfl rfl rfl rfl (by kernel_rfl) Tryz.func4 (by kernel_rfl)
  (of_decide_eq_true (by kernel_rfl)) (by unfold Func.isWrapper;first | (rw[if_pos (by decide+kernel)];kernel_rfl) | (rw[if_neg (by decide+kernel)];exact⟨rfl,rfl⟩))
  (λos started H enc _=>lifted os started H enc)

theorem proved:Rows.EqtabFullSaid:=
 over
#print axioms proved
end Go.Proofs.YtiebboaeaoobmaaGreat.eqtabFull
