/-
 What a law of tables plays with is begun. Proves nothing of any one statement.
-/
import Derived.Test.YtiebboaeaoobmaaGreatTabI
set_option linter.unusedVariables false
set_option linter.unusedSimpArgs false
namespace Go.Proofs.YtiebboaeaoobmaaGreat
open Go

def Rel(keys:List Int)(E:List Ent)(L:List (Int×Int)):Prop:=E.map (λy=>(y.k,y.v))=L.map (λp=>(keys.getD p.1.toNat 0,8*p.2))/\ ∀p∈L,(0<=p.1/\p.1<40)/\(0<=p.2/\p.2<1000)
structure PS (J:Sp->(Int->Prop)->Prop) (H0 A:zV) (b:Blk) (x:Hp) (G:Int->Prop) (f:PF) (th:TF) (t ew:Int) (E:List Ent) (W:TW) (P q:Nat) (keys:List Int) (B:zW) (c:Nat) (L:List (Int×Int)):Prop where
 ts:TS J H0 A b x G f th t ew E W
 play:PlayAt A P b t keys q
 ref:RefT A q B c L
 dis:P ∉ b.all/\q ∉ b.all/\P≠q/\P ∉ blks B/\ ∀j∈blks B,j ∉ b.all
 ge:H0.size<=P/\H0.size<=q/\ ∀j∈blks B,H0.size<=j
 rel:Rel keys E L
 kw: ∀k∈keys,IsWord k/\G k
 nod:keys.Nodup
theorem PS.ext{J:Sp->(Int->Prop)->Prop}{H0 A A':zV}{b:Blk}{x:Hp}{G:Int->Prop}{f:PF}{th:TF}{t ew:Int}{E:List Ent}{W:TW}{P q c:Nat}{keys:List Int}{B:zW}{L:List (Int×Int)}(S:PS J H0 A b x G f th t ew E W P q keys B c L)(e:Ext A A'):PS J H0 A' b x G f th t ew E W P q keys B c L:=
 ⟨S.ts.ext e,S.play.ext e,S.ref.ext e,S.dis,S.ge,S.rel,S.kw,S.nod⟩
def KW(m:Mem)(i:Nat)(k:Int):Prop:=(k % 8=0/\k<8*(i:Int))\/((k % 8=1\/k % 8=2\/k % 8=3)/\m.used (k / 8))
theorem KW.mono{m m':Mem}{i:Nat}{k:Int}(h:KW m i k)(hu: ∀a,m.used a->m'.used a):KW m' (i+1) k:=by
 rcases h with⟨h1,h2⟩ | ⟨h1,h2⟩
 ·exact .inl ⟨h1,by omega⟩
 ·exact .inr ⟨h1,hu _ h2⟩
theorem tmod5{i:Int}(h:0<=i):Int.tmod i 5=i % 5:=Int.tmod_eq_emod_of_nonneg h
theorem runes_k:(runesOf (ByteArray.mk #[107])).length<=62:=by
 rw[show runesOf (ByteArray.mk #[107])=[107]by decide+kernel];decide
set_option maxRecDepth 100000 in
set_option maxHeartbeats 1000000 in
theorem begun_c{J:Sp->(Int->Prop)->Prop}(O:JOK J){H:zV}{G0:Int->Prop}(hJ:J ⟨Mem.fresh 200,λ_ _=>0⟩ G0):
  morainelaw15_begun.C H (λv H'=> ∃b x G f th t W P q keys,v=.pointer (some ⟨P,0,none⟩)/\PS J H H' b x G f th t (8*x.ep) [] W P q keys none 0 []/\x.ep=0/\150<=x.sp.mem.free/\x.en=.slice none 0 0/\x.sy=.slice none 0 0):=by
 refine HC.via λR hR=>morainelaw15_begun.link ?_
 unfold morainelaw15_begun.pt zY
 refine HC.mono (obj_New_c (limit:=200) ⟨by decide,by decide⟩) ?_
 rintro _ H1 (⟨hc,rfl,e1⟩ | ⟨hc,b,x0,rfl,V1,hx,e1,hb1⟩)
 ·exact absurd ⟨by decide,by decide⟩ hc
 refine⟨_,_,rfl,?_⟩
 rw[if_pos rfl,onPtr_some]
 intro q H2 hq hH2 P H3 hP hH3
 have e2:Ext H1 H2:=Ext.push' hH2
 have e3:Ext H2 H3:=Ext.push' hH3
 have gq:=e3.get (push_get hq hH2)
 have gP:=push_get hP hH3
 have z2:H2.size=H1.size+1:=by rw[hH2];simp
 have z3:H3.size=H2.size+1:=by rw[hH3];simp
 have z1:=e1.size
 have hlim:(200:Int).toNat=200:=rfl
 rw[hlim]at hx
 have S1:HS J H H1 b x0 G0 (λ_=>none) (λ_=>none):=⟨e1,V1,by rw[hx];exact hJ,⟨λ_ _ _ h=>(by cases h),λ_ _ _ h=>(by cases h),λ_ _ _ _ _ _ h=>(by cases h)⟩,λ_ _ h=>(by cases h),λ_ _ h=>(by cases h),hb1⟩
 have hblt:=S1.blt
 have hep0:x0.ep=0:=by rw[hx]
 have hfr0:x0.sp.mem.free=200:=by rw[hx];rfl
 refine HC.mono (New_c O (S1.ext (e2.trans e3)) (by omega) (by omega)) ?_
 rintro _ H4 ⟨t,vb,x1,G1,th1,rfl,T1,-,r1,gg1,gt,wt,t3,-,-,-,fr1⟩
 refine⟨_,_,rfl,?_⟩
 rw[if_pos rfl]
 have nb: ∀j,H1.size<=j->j ∉ [b.sp,b.m,b.s]:=λj hj h=>by
  have:=hblt j (by simp at h;simp[Blk.all];omega)
  omega
 have p1:PlayAt H4 P b 0 (List.replicate 40 0) q:=⟨(fr1.get (nb _ (by omega)) gP).trans rfl,by simp⟩
 obtain⟨hcp,hs⟩:=p1.setT t
 refine⟨hcp,λH5 hH5=>?_⟩
 obtain⟨p5,f5⟩:=hs H5 hH5
 have hPb:P ∉ b.all:=λh=>by have:=hblt P h;omega
 have hqb:q ∉ b.all:=λh=>by have:=hblt q h;omega
 have z4:=fr1.size
 have q5:RefT H5 q none 0 []:=⟨f5.get (by simp;omega) (fr1.get (nb _ (by omega)) gq),own_nil,by simp⟩
 have hS5:=T1.hs.keep f5 (λj hj=>by simp at hj;omega) (λj hj=>by simp at hj;rw[hj];exact hPb)
 have hfr1:=r1.free
 refine⟨λi A=> ∃(n:Nat) (x:Hp) (G:Int->Prop) (f:PF) (th:TF) (ks:List Int),i=n/\n<=40/\TS J H A b x G f th t 0 [] (W0 vb)/\PlayAt A P b t (ks++List.replicate (40-n) 0) q/\RefT A q none 0 []/\Rest (n:Int) x1 x/\ks.length=n/\ks.Nodup/\ ∀k∈ks,IsWord k/\G k/\KW x.sp.mem n k,λi _=>(40-i).toNat,
  ⟨0,x1,G1,_,th1,[],rfl,by omega,⟨hS5,by have:=T1.tb;rw[r1.ep,hep0]at this;exact this,λ_=>(by intro i hi p hp;cases hp),T1.ep,T1.few⟩,by simpa using p5,q5,Rest.refl _,rfl,List.nodup_nil,λk hk=>by simp at hk⟩,?_⟩
 rintro _ A ⟨n,x,G,f,th,ks,rfl,hn,T,hp,hq',hr,hkl,hnd,hkw⟩
 have hpl:(ks++List.replicate (40-n) (0:Int)).length=40:=hp.len
 have hfree:=hr.free
 have hepx:x.ep=0:=by rw[hr.ep,r1.ep,hep0]
 by_cases hlt:(n:Int)<40
 case neg=>
  rw[if_neg hlt]
  have hn40:n=40:=by omega
  subst hn40
  rw[show List.replicate (40-40) (0:Int)=[]from rfl,List.append_nil]at hp
  refine hR _ _ ⟨b,x,G,f,th,t,W0 vb,P,q,ks,rfl,⟨by rw[hepx];exact T,hp,hq',⟨hPb,hqb,by omega,by simp,by simp⟩,⟨by omega,by omega,by simp⟩,⟨rfl,by simp⟩,λk hk=>⟨(hkw k hk).1,(hkw k hk).2.1⟩,hnd⟩,hepx,by omega,?_,?_⟩
  ·rw[hr.2.1,r1.2.1,hx]
  ·rw[hr.1,r1.1,hx]
 rw[if_pos hlt]
 have hd:((40:Int)-((n:Int)+1)).toNat< ((40:Int)-(n:Int)).toNat:=by omega
 rw[tmod5 (by omega),w64 (n:=(n:Int)+1) (by omega)]
 have hin:Int.toNat (n:Int)=n:=by omega
 rw[hin]
 have hrow: ∀(w:Int),(ks++List.replicate (40-n) (0:Int)).set n w=(ks++[w])++List.replicate (40-(n+1)) 0:=λw=>by
  rw[List.set_append,if_neg (by omega),hkl,Nat.sub_self,show 40-n=(40-(n+1))+1 by omega,List.replicate_succ]
  simp
 have hnb: ∀j∈[b.sp,b.m,b.s],j∈b.all:=λj hj=>by simp at hj;simp[Blk.all];omega
 have fin: ∀(A2:zV) (x':Hp) (G':Int->Prop) (f':PF) (th':TF) (w:Int),TS J H A2 b x' G' f' th' t 0 [] (W0 vb)->Rest 1 x x'->(∀v,G v->G' v)->Fr [b.sp,b.m,b.s] A A2->IsWord w->G' w->KW x'.sp.mem (n+1) w->(∀k∈ks,k≠w)->
   ((0:Int)<=(n:Int)/\(n:Int)< (40:Int))/\(CanPuts A2 (((Addr.mk P 0 none).add 2).add (n*1)) 0 1)/\ ∀A3:zV,A3=hputs A2 (((Addr.mk P 0 none).add 2).add (n*1)) [.int .u64 w] 0->
   ((∃(n':Nat) (x:Hp) (G:Int->Prop) (f:PF) (th:TF) (ks:List Int),(n:Int)+1=n'/\n'<=40/\TS J H A3 b x G f th t 0 [] (W0 vb)/\PlayAt A3 P b t (ks++List.replicate (40-n') 0) q/\RefT A3 q none 0 []/\Rest (n':Int) x1 x/\ks.length=n'/\ks.Nodup/\ ∀k∈ks,IsWord k/\G k/\KW x.sp.mem n' k)/\((40:Int)-((n:Int)+1)).toNat< ((40:Int)-(n:Int)).toNat):=by
  intro A2 x' G' f' th' w T' r' gg' fr' ww gw kw hne
  refine⟨⟨by omega,hlt⟩,?_⟩
  have hp2:=hp.keep fr' (λh=>hPb (hnb _ h))
  obtain⟨hcp,hs⟩:=hp2.setK (i:=n) (by omega) w
  refine⟨hcp,λA3 hA3=>?_⟩
  obtain⟨hp3,f3⟩:=hs A3 hA3
  rw[hrow]at hp3
  refine⟨⟨n+1,x',G',f',th',ks++[w],by omega,by omega,⟨T'.hs.keep f3 (λj hj=>by simp at hj;omega) (λj hj=>by simp at hj;rw[hj];exact hPb),T'.tb,T'.right,T'.ep,T'.few⟩,hp3,(hq'.keep fr' (λj hj=>⟨λq'=>hqb (hnb _ (q'▸hj)),by simp⟩)).keep f3 (λj hj=>by simp at hj;exact⟨by omega,by simp⟩),hr.trans r' (by omega),by simp[hkl],?_,λk hk=>?_⟩,hd⟩
  ·rw[List.nodup_append]
   exact⟨hnd,by simp,λa ha c hc=>by simp at hc;rw[hc];exact hne a ha⟩
  ·rcases List.mem_append.1 hk with h | h
   ·obtain⟨k1,k2,k3⟩:=hkw k h
    exact⟨k1,gg' _ k2,k3.mono r'.2.2.2.2⟩
   ·simp at h;rw[h];exact⟨ww,gw,kw⟩
 have far: ∀{w:Int},(w % 8=1\/w % 8=2\/w % 8=3)-> ¬x.sp.mem.used (w / 8)-> ∀k∈ks,k≠w:=λhw hu k hk e=>by
  obtain⟨_,_,h | h⟩:=hkw k hk
  ·rw[e]at h;omega
  ·exact hu (by rw[<-e];exact h.2)
 have tsOf: ∀{A2:zV} {x':Hp} {G':Int->Prop} {f':PF} {th':TF},HS J H A2 b x' G' f' th'->Tb f' th' t 0 [] (W0 vb)->Rest 1 x x'->TS J H A2 b x' G' f' th' t 0 [] (W0 vb):=λh1 h2 h3=>⟨h1,h2,λ_=>(by intro i hi p hp;cases hp),by rw[h3.ep];exact T.ep,by decide⟩
 refine⟨λs A'=>A'=A/\(s=true ↔ (n:Int) % 5=0\/(n:Int) % 5=1),?_,?_⟩
 ·by_cases h0:(n:Int) % 5=0
  ·rw[if_pos h0];exact⟨rfl,by simp[h0]⟩
  ·rw[if_neg h0]
   refine⟨rfl,?_⟩
   rw[beq_iff_eq];omega
 rintro s A' ⟨rfl,hs⟩
 have hfix:=isW8 (n:=(n:Int)) (by omega)
 by_cases hs1:s=true
 ·rw[if_pos hs1]
  refine HC.mono (lfix_c (n:=(n:Int)) (by omega)) ?_
  rintro _ A1 ⟨rfl,rfl⟩
  refine⟨_,rfl,?_⟩
  refine HC.mono (T.hs.cons_c O hfix word20 (O.fix T.hs.j _) (O.nil T.hs.j)) ?_
  rintro _ A2 ⟨w,er,x',G',rfl,r',gg',fr',hcase⟩
  refine⟨_,_,rfl,?_⟩
  rcases hcase with⟨rfl,fw,ww,S2⟩ | ⟨rfl,rfl,hf0,S2⟩
  case inr=>omega
  rw[if_pos rfl]
  have hp2:=S2.pic.prs w _ _ (PF.upd_at f w _)
  have h81:=hp2.at'.2.1
  exact fin A2 x' G' _ th w (tsOf S2 (T.tb.grow fw) r') r' gg' fr' ww.1 (S2.gf w _ (PF.upd_at f w _)) (.inr ⟨.inl h81,hp2.at'.used hp2.word⟩) (far (.inl h81) ww.2)
 rw[if_neg hs1]
 have hs0: ¬((n:Int) % 5=0\/(n:Int) % 5=1):=λh=>hs1 (hs.2 h)
 by_cases h2:(n:Int) % 5=2
 ·rw[if_pos h2]
  refine HC.mono (T.hs.string_c O runes_k (by omega)) ?_
  rintro _ A2 ⟨w,x',G',rfl,S2,r',gg',gw,ww,w3,hnu,hu,fr'⟩
  refine⟨_,_,rfl,?_⟩
  rw[if_pos rfl]
  exact fin A2 x' G' f th w (tsOf S2 T.tb r') r' gg' fr' ww gw (.inr ⟨.inr (.inr w3),hu⟩) (far (.inr (.inr w3)) hnu)
 rw[if_neg h2]
 by_cases h3:(n:Int) % 5=3
 ·rw[if_pos h3]
  refine HC.mono (lfix_c (n:=(n:Int)) (by omega)) ?_
  rintro _ A1 ⟨rfl,rfl⟩
  refine⟨_,rfl,?_⟩
  refine fin A1 x G f th (8*(n:Int)) T (Rest.refl x |>.le) (λ_ h=>h) (Fr.refl _ _) hfix (O.fix T.hs.j _) (.inl ⟨by omega,by omega⟩) (λk hk e=>?_)
  obtain⟨_,_,h | h⟩:=hkw k hk
  ·omega
  ·omega
 rw[if_neg h3,if_pos (by omega)]
 refine HC.mono (lfix_c (n:=(n:Int)) (by omega)) ?_
 rintro _ A1 ⟨rfl,rfl⟩
 refine⟨_,rfl,?_⟩
 refine HC.mono (T.hs.weak_c O hfix word20 (O.fix T.hs.j _) (O.nil T.hs.j) (by omega)) ?_
 rintro _ A2 ⟨w,x',G',rfl,S2,r',gg',gw,ww,w2,hnu,hu,fr'⟩
 refine⟨_,_,rfl,?_⟩
 rw[if_pos rfl]
 exact fin A2 x' G' f th w (tsOf S2 T.tb r') r' gg' fr' ww gw (.inr ⟨.inr (.inl w2),hu⟩) (far (.inr (.inl w2)) hnu)
