/-
  Contracts of package eqtab: a list without an entry; Delete. Proves nothing of any one statement.
-/
import Derived.Test.YtiebboaeaoobmaaGreatTabM
set_option linter.unusedVariables false
set_option linter.unusedSimpArgs false
namespace Go.Proofs.YtiebboaeaoobmaaGreat
open Go

structure WoI (S:List Nat) (A0:zV) (rc:LoopState->Option Code->Obj) (st:LoopState) (pe:Option Code) (lp D b1 b2 b3 b4:Nat) (c1:Obj) (c2 c3 c4:Value) (T2 T3 T4:TypeId) (A:zV):Prop where
  e:Fr S A0 A
  loop:A[lp]?=some (rc st pe)
  dfr:A[D]?=some (.deferred (some []))
  g1:A[b1]?=some c1
  g2:A[b2]?=some (.cells #[c2] T2 (0,0))
  g3:A[b3]?=some (.cells #[c3] T3 (0,0))
  g4:A[b4]?=some (.cells #[c4] T4 (0,0))
section
variable {S T:List Nat} {A0 A A':zV} {rc:LoopState->Option Code->Obj} {st st':LoopState} {pe pe':Option Code} {lp D b1 b2 b3 b4:Nat} {c1:Obj} {c2 c3 c3' c4 c4':Value} {T2 T3 T4:TypeId}
theorem WoI.keep(h:WoI S A0 rc st pe lp D b1 b2 b3 b4 c1 c2 c3 c4 T2 T3 T4 A)(f:Fr T A A')(hS: ∀i∈T,(i∈S\/A0.size<=i)/\i≠lp/\i≠D/\i≠b1/\i≠b2/\i≠b3/\i≠b4):WoI S A0 rc st pe lp D b1 b2 b3 b4 c1 c2 c3 c4 T2 T3 T4 A':=
  ⟨h.e.trans' f (λj hj _=>hj) (λi hi hl=>(hS i hi).1.resolve_right (by omega)),f.get (λhi=>(hS _ hi).2.1 rfl) h.loop,f.get (λhi=>(hS _ hi).2.2.1 rfl) h.dfr,f.get (λhi=>(hS _ hi).2.2.2.1 rfl) h.g1,f.get (λhi=>(hS _ hi).2.2.2.2.1 rfl) h.g2,f.get (λhi=>(hS _ hi).2.2.2.2.2.1 rfl) h.g3,f.get (λhi=>(hS _ hi).2.2.2.2.2.2 rfl) h.g4⟩
theorem WoI.turn(h:WoI S A0 rc st pe lp D b1 b2 b3 b4 c1 c2 c3 c4 T2 T3 T4 A)(hA:A'=aV A lp (rc st' pe'))(hl:A0.size<=lp/\lp≠D/\lp≠b1/\lp≠b2/\lp≠b3/\lp≠b4):WoI S A0 rc st' pe' lp D b1 b2 b3 b4 c1 c2 c3 c4 T2 T3 T4 A'/\Fr [lp] A A':=by
  have f:Fr [lp] A A':=by rw[hA];exact Fr.set
  exact⟨⟨h.e.trans' f (λj hj _=>hj) (λi hi hl'=>by simp at hi;omega),by rw[hA];exact kh h.loop,f.get (by simp;omega) h.dfr,f.get (by simp;omega) h.g1,f.get (by simp;omega) h.g2,f.get (by simp;omega) h.g3,f.get (by simp;omega) h.g4⟩,f⟩
theorem WoI.put3(h:WoI S A0 rc st pe lp D b1 b2 b3 b4 c1 c2 c3 c4 T2 T3 T4 A)(f:Fr [b3] A A')(g:A'[b3]?=some (.cells #[c3'] T3 (0,0)))(hl:b3≠lp/\b3≠D/\b3≠b1/\b3≠b2/\b3≠b4)(hS:b3∈S):WoI S A0 rc st pe lp D b1 b2 b3 b4 c1 c2 c3' c4 T2 T3 T4 A':=
  ⟨h.e.trans (f.mono (λi hi _=>by simp at hi;rw[hi];exact hS)),f.get (by simp;omega) h.loop,f.get (by simp;omega) h.dfr,f.get (by simp;omega) h.g1,f.get (by simp;omega) h.g2,g,f.get (by simp;omega) h.g4⟩
theorem WoI.put4(h:WoI S A0 rc st pe lp D b1 b2 b3 b4 c1 c2 c3 c4 T2 T3 T4 A)(f:Fr [b4] A A')(g:A'[b4]?=some (.cells #[c4'] T4 (0,0)))(hl:b4≠lp/\b4≠D/\b4≠b1/\b4≠b2/\b4≠b3)(hS:b4∈S):WoI S A0 rc st pe lp D b1 b2 b3 b4 c1 c2 c3 c4' T2 T3 T4 A':=
  ⟨h.e.trans (f.mono (λi hi _=>by simp at hi;rw[hi];exact hS)),f.get (by simp;omega) h.loop,f.get (by simp;omega) h.dfr,f.get (by simp;omega) h.g1,f.get (by simp;omega) h.g2,f.get (by simp;omega) h.g3,g⟩
end
section
variable {J:Sp->(Int->Prop)->Prop} {H0 H H':zV} {b:Blk} {x x':Hp} {G G':Int->Prop} {f f':PF} {th th':TF} {t ew:Int} {E E':List Ent} {W W':TW} {n:Int}
def preW(l:List (Int×Int)):Nat->Int
  | 0=>0
  | k+1=>(l.map Prod.fst).getD k 0
structure Gone (f f':PF) (A B:List (Int×Int)) (o r:Int):Prop where
  chn:Chn f' r (A++B)
  at':f' o=some (20,20)
  far: ∀u,u≠o->(∀p∈A,p.1≠u)->f' u=f u
  some: ∀u,f u≠none->f' u≠none
set_option maxRecDepth 100000 in
set_option maxHeartbeats 1000000 in
theorem nw(O:JOK J)(S:HS J H0 H b x G f th){t w e o:Int}{A B:List (Int×Int)}(hch:Chn f w (A++(o,e)::B))(hA: ∀p∈A,p.2≠e):
    bZ.C (some ⟨b.h,0,none⟩) t w e H (λv H'=> ∃r x' f',v=.int .u64 r/\HS J H0 H' b x' G f' th/\Rest 0 x x'/\Fr [b.sp,b.m,b.s] H H'/\Gone f f' A B o r):=by
  refine HC.via λR hR=>bZ.link ?_
  unfold bZ.pt
  intro b1 H1 hb1 hH1 b2 H2 hb2 hH2 b3 H3 hb3 hH3 b4 H4 hb4 hH4
  have e1:Ext H H1:=Ext.push' hH1
  have e2:Ext H1 H2:=Ext.push' hH2
  have e3:Ext H2 H3:=Ext.push' hH3
  have e4:Ext H3 H4:=Ext.push' hH4
  have g1:=((e2.trans e3).trans e4).get (aF hb1 hH1)
  have g2:=(e3.trans e4).get (aF hb2 hH2)
  have g3:=e4.get (aF hb3 hH3)
  have g4:=aF hb4 hH4
  have s1:H1.size=H.size+1:=by rw[hH1];simp
  have s2:H2.size=H1.size+1:=by rw[hH2];simp
  have s3:H3.size=H2.size+1:=by rw[hH3];simp
  have s4:H4.size=H3.size+1:=by rw[hH4];simp
  have e04:=((e1.trans e2).trans e3).trans e4
  refine⟨_,_,bA g1,?_⟩
  have hblt:=S.blt
  have nb: ∀j,j∈[b.sp,b.m,b.s]->j<H.size:=λj hj=>hblt j (by simp at hj;simp[Blk.all];omega)
  refine HC.mono lX ?_
  rintro v H5 ⟨p,q,rfl,gp,gq,hpq,hp,hq,e5⟩
  refine⟨rfl,?_⟩
  intro rc lp H6 hlp hH6 vY hY
  have s5:=e5.size
  have hq5:=aY gq
  have hp5:=aY gp
  have hl6:H6[lp]?=some (rc .ready none):=aF (by simp;omega) hH6
  have e56:Ext (H5.push (.deferred (some []))) H6:=Ext.push' hH6
  have hd6:H6[H5.size]?=some (.deferred (some [])):=e56.get (aF rfl rfl)
  have e6:Ext H5 H6:=(Ext.push H5 _).trans e56
  have s6:H6.size=H5.size+2:=by rw[hH6];simp
  have e46:Ext H4 H6:=e5.trans e6
  have h20:=S.pic.no20
  obtain⟨SS,hSS⟩: ∃SS:List Nat,SS=b3::b4::[b.sp,b.m,b.s]:=⟨_,rfl⟩
  have I0:WoI SS H4 rc .ready none lp H5.size b1 b2 b3 b4 (.cells #[.pointer (some ⟨b.h,0,none⟩),.int .u64 t] 72 (0,0)) (.int .u64 e) (.int .u64 0) (.int .u64 0) 31 31 31 H6:=⟨e46.fr,hl6,hd6,e46.get g1,e46.get g2,e46.get g3,e46.get g4⟩
  have hlt:H4.size<=lp/\lp≠H5.size/\lp≠b1/\lp≠b2/\lp≠b3/\lp≠b4:=by omega
  have m3:b3∈SS:=by rw[hSS];simp
  have m4:b4∈SS:=by rw[hSS];simp
  have h0s:H0.size<=H.size:=S.e.size
  have keepS: ∀{A A':zV} {x':Hp} {f':PF} {c:Nat},H.size<=c->HS J H0 A b x' G f' th->Fr [c] A A'->HS J H0 A' b x' G f' th:=λ{A A' x' f' c} hc hs fr=>hs.keep fr (λj hj=>by simp at hj;omega) (λj hj h=>by simp at hj;have:=hblt j h;omega)
  have mS: ∀i,i∈[b.sp,b.m,b.s]->(i∈SS\/H4.size<=i)/\i≠lp/\i≠H5.size/\i≠b1/\i≠b2/\i≠b3/\i≠b4:=λi hi=>by
    have:=nb i hi
    exact⟨.inl (by rw[hSS];simp at hi⊢;omega),by omega⟩
  have hof: ∃rest,f o=some (e,rest)/\Chn f rest B:=by
    have h1:=hch.at' A.length (by simp)
    simp only[List.getElem_append_right (Nat.le_refl A.length),Nat.sub_self,List.getElem_cons_zero,List.drop_left']at h1
    obtain⟨_,d,h2,h3⟩:=h1
    exact⟨d,h2,h3⟩
  obtain⟨rest,hfo,hcB⟩:=hof
  have hnd:=hch.nodup h20
  rw[List.map_append,List.map_cons,List.nodup_append]at hnd
  obtain⟨nd1,nd2,nd3⟩:=hnd
  rw[List.nodup_cons]at nd2
  have hoA: ∀p∈A,p.1≠o:=λp hp=>nd3 p.1 (List.mem_map_of_mem hp) o (by simp)
  have hoB: ∀p∈B,p.1≠o:=λp hp q=>nd2.1 (List.mem_map.2 ⟨p,hp,q⟩)
  have hAB: ∀p∈A,∀q∈B,q.1≠p.1:=λp hp q hq e=>nd3 p.1 (List.mem_map_of_mem hp) q.1 (List.mem_cons_of_mem _ (List.mem_map_of_mem hq)) e.symm
  have fin: ∀(A1:zV) (r:Int) (x':Hp) (f':PF),HS J H0 A1 b x' G f' th->Rest 0 x x'->Gone f f' A B o r->Fr SS H4 A1->A1[H5.size]?=some (.deferred (some []))->A1[b3]?=some (.cells #[.int .u64 r] 31 (0,0))->
      Shut (H5.size::[]) A1 (λH18=> ∃r:Int,hat H18 (Addr.mk b3 0 none)=some (.int .u64 r)/\R (.int .u64 r) H18):=λA1 r x' f' hs hr hg fr hd h3=>by
    have fD:Fr [H5.size] A1 (A1.setIfInBounds H5.size (.deferred none)):=Fr.set
    refine k6 hd ⟨r,aK (fD.get (by simp;omega) h3),hR _ _ ⟨r,x',f',rfl,keepS (by omega) hs fD,hr,?_,hg⟩⟩
    have F:=fr.trans' fD (S'':=H5.size::SS) (λj hj _=>by simp[hj]) (λj hj _=>by simp at hj;simp[hj])
    refine(e04.fr (S:=[b.sp,b.m,b.s])).trans' F (λj hj _=>hj) (λj hj hl=>?_)
    rw[hSS]at hj
    simp only[List.mem_cons,List.not_mem_nil,or_false]at hj⊢
    omega
  have hAl:A.length< (A++(o,e)::B).length:=by simp
  refine FE.of2 (enters_of Tryz.func92 (by kernel_rfl) rfl) rfl (HC.mono (jq (J:=J) (H0:=H0) (b:=b) (x:=x) (G:=G) (f:=f) (th:=th)
    (R0:=λA1=> ∃x' f',HS J H0 A1 b x' G f' th/\Rest 0 x x'/\Gone f f' A B o (if A=[]then rest else w)/\
      ((A=[]/\WoI SS H4 rc .done (some .ret) lp H5.size b1 b2 b3 b4 (.cells #[.pointer (some ⟨b.h,0,none⟩),.int .u64 t] 72 (0,0)) (.int .u64 e) (.int .u64 rest) (.int .u64 0) 31 31 31 A1)\/
       (A≠[]/\ ∃c4,WoI SS H4 rc .done (some (.exit 0)) lp H5.size b1 b2 b3 b4 (.cells #[.pointer (some ⟨b.h,0,none⟩),.int .u64 t] 72 (0,0)) (.int .u64 e) (.int .u64 0) c4 31 31 31 A1)))
    (λk A1=>k<=A.length/\HS J H0 A1 b x G f th/\WoI SS H4 rc .ready none lp H5.size b1 b2 b3 b4 (.cells #[.pointer (some ⟨b.h,0,none⟩),.int .u64 t] 72 (0,0)) (.int .u64 e) (.int .u64 0) (.int .u64 (preW (A++(o,e)::B) k)) 31 31 31 A1)
    h20 hch (e6.get gp) (e6.get gq) hpq ⟨Nat.zero_le _,S.ext (e04.trans e46),I0⟩ (λk A h=>h.2.1) ?_ ?_ ?_) (λv A1 h=>?_))
  · rintro k A1 A' ⟨h1,h2,h3⟩ fr
    exact⟨h1,keepS (by omega) h2 fr,h3.keep fr (λi hi=>by simp at hi;omega)⟩
  · rintro k hkl A1 ⟨hk,hs,hI⟩
    refine hY _ A1 _ hI.loop ⟨hI.loop,λH8 hH8=>?_⟩
    obtain⟨I8,f8⟩:=hI.turn hH8 hlt
    have hs8:=keepS (by omega) hs f8
    refine⟨_,aK I8.g1,?_⟩
    obtain⟨d,hfd⟩:=hch.some _ (List.getElem_mem hkl)
    refine HC.mono (hs8.car_c hfd) ?_
    rintro _ H9 ⟨rfl,e9⟩
    have I9:=I8.keep (T:=[]) e9.fr (by simp)
    have hs9:=hs8.ext e9
    refine⟨_,_,rfl,_,aK I9.g2,?_⟩
    have zA:=aY hI.loop
    have z8:=f8.size
    have z9:=e9.size
    rcases Nat.lt_or_ge k A.length with hkA | hkA
    · -- one ahead of it
      have hel:(A++(o,e)::B)[k]=A[k]:=List.getElem_append_left hkA
      rw[hel]at hfd⊢
      rw[if_neg (hA _ (List.getElem_mem hkA))]
      obtain⟨hcp,hs'⟩:=eF (vs:=[.int .u64 A[k].1]) I9.g4 rfl rfl
      refine⟨hcp,λH14 hH14=>?_⟩
      obtain⟨g14,f14⟩:=hs' H14 hH14
      have I14:=I9.put4 f14 g14 (by omega) m4
      obtain⟨I15,f15⟩:=I14.turn (st':=.ready) (pe':=none) rfl hlt
      have hpre:preW (A++(o,e)::B) (k+1)=A[k].1:=by
        show((A++(o,e)::B).map Prod.fst).getD k 0=_
        rw[List.getD_eq_getElem?_getD,List.getElem?_map,List.getElem?_eq_getElem hkl,hel];rfl
      rw[<-hpre]at I15
      refine⟨I14.loop,true,rfl,λ_=>⟨⟨hkA,keepS (by omega) (keepS (by omega) hs9 f14) f15,I15⟩,?_,?_⟩,λh=>by(cases h)⟩
      · rw[f15.2 p (by have:=f14.size;omega) (by simp;omega),f14.2 p (by omega) (by simp;omega),(e9.fr (S:=[])).2 p (by omega) (by simp),f8.2 p (by omega) (by simp;omega)]
      · rw[f15.2 q (by have:=f14.size;omega) (by simp;omega),f14.2 q (by omega) (by simp;omega),(e9.fr (S:=[])).2 q (by omega) (by simp),f8.2 q (by omega) (by simp;omega)]
    have hkE:k=A.length:=by omega
    have hel:(A++(o,e)::B)[k]=(o,e):=by
      rw[List.getElem_append_right (by omega)]
      simp[hkE]
    rw[hel]at hfd⊢
    obtain rfl:d=rest:=by rw[hfo]at hfd;cases hfd;rfl
    rw[if_pos rfl]
    refine⟨_,aK I9.g1,?_⟩
    refine HC.mono (hs9.cdr_c hfo) ?_
    rintro _ H10 ⟨rfl,e10⟩
    have I10:=I9.keep (T:=[]) e10.fr (by simp)
    have hs10:=hs9.ext e10
    refine⟨_,_,rfl,_,_,bA I10.g1,?_⟩
    refine HC.mono (qh O hs10 hfo) ?_
    rintro _ H11 ⟨x1,hs11,r11,f11⟩
    have I11:=I10.keep f11 mS
    refine⟨_,aK I11.g4,?_⟩
    cases hAc:A with
    | nil=>
      subst hAc
      have hk0:k=0:=by simpa using hkE
      subst hk0
      rw[if_pos (show preW (([]:List (Int×Int))++(o,e)::B) 0=0 from rfl)]
      obtain⟨hcp,hs'⟩:=eF (vs:=[.int .u64 d]) I11.g3 rfl rfl
      refine⟨hcp,λH12 hH12=>?_⟩
      obtain⟨g12,f12⟩:=hs' H12 hH12
      have I12:=I11.put3 f12 g12 (by omega) m3
      obtain⟨I13,f13⟩:=I12.turn (st':=.done) (pe':=some .ret) rfl hlt
      refine⟨I12.loop,false,rfl,λh=>by(cases h),λ_=>⟨x1,_,keepS (by omega) (keepS (by omega) hs11 f12) f13,r11,⟨?_,PF.upd_at _ _ _,λu hu _=>PF.upd_ne _ _ hu,λu hu=>?_⟩,.inl ⟨rfl,I13⟩⟩⟩
      · rw[if_pos rfl]
        exact hcB.cong (λp hp=>PF.upd_ne _ _ (hoB p hp))
      · by_cases q:u=o
        · rw[q,PF.upd_at];simp
        · rw[PF.upd_ne _ _ q];exact hu
    | cons a0 A0=>
      have hne:A≠[]:=by rw[hAc];simp
      obtain⟨A2,z,hA2⟩: ∃A2 z,A=A2++[z]:=⟨A.dropLast,A.getLast hne,(List.dropLast_concat_getLast hne).symm⟩
      rw[<-hAc]
      have hkk:k=A2.length+1:=by rw[hkE,hA2];simp
      have hpre:preW (A++(o,e)::B) k=z.1:=by
        rw[hkk]
        show((A++(o,e)::B).map Prod.fst).getD A2.length 0=_
        rw[hA2,List.getD_eq_getElem?_getD]
        simp
      have hz:z∈A:=by rw[hA2];simp
      obtain⟨dz,hfz⟩:=hch.some z (List.mem_append_left _ hz)
      have hzo:=hoA z hz
      have hz1:=S.pic.prs z.1 _ _ hfz
      have hz0:z.1≠0:=λq=>by have:=hz1.at'.2.1;omega
      rw[hpre,if_neg hz0]
      refine⟨_,aK I11.g1,_,aK I11.g4,?_⟩
      rw[hpre]
      have hfz1:(f.upd o (20,20)) z.1=some (z.2,dz):=by rw[PF.upd_ne _ _ hzo];exact hfz
      obtain⟨wd,gd⟩:aG d/\G d:=S.chn O hcB
      refine HC.mono (hs11.setCdr_c O hfz1 wd gd) ?_
      rintro _ H13 ⟨rfl,x2,hs13,r13,f13⟩
      have I13:=I11.keep f13 mS
      obtain⟨I14,f14⟩:=I13.turn (st':=.done) (pe':=some (.exit 0)) rfl hlt
      have hfar: ∀u,u≠o->u≠z.1->((f.upd o (20,20)).upd z.1 (z.2,d)) u=f u:=λu h1 h2=>by rw[PF.upd_ne _ _ h2,PF.upd_ne _ _ h1]
      refine⟨_,rfl,I13.loop,false,rfl,λh=>by(cases h),λ_=>⟨x2,_,keepS (by omega) hs13 f14,r11.trans r13,⟨?_,?_,λu h1 h2=>hfar u h1 (λq=>h2 z hz q.symm),λu hu=>?_⟩,.inr ⟨hne,_,I14⟩⟩⟩
      · refine Chn.without hcB (λp hp=>hfar _ (hoB p hp) (hAB z hz p hp)) A hch hfo (.inr ⟨A2,z,hA2,PF.upd_at _ _ _,λp hp=>hfar _ (hoA p (by rw[hA2];simp[hp])) ?_⟩)
        rw[hA2,List.map_append,List.nodup_append]at nd1
        exact nd1.2.2 p.1 (List.mem_map_of_mem hp) z.1 (by simp)
      · rw[PF.upd_ne _ _ (λq=>hzo q.symm),PF.upd_at]
      · by_cases q:u=z.1
        · rw[q,PF.upd_at];simp
        · rw[PF.upd_ne _ _ q]
          by_cases q2:u=o
          · rw[q2,PF.upd_at];simp
          · rw[PF.upd_ne _ _ q2];exact hu
  · rintro A1 ⟨hk,_⟩
    exact absurd hk (by omega)
  · obtain⟨x',f',hs,hr,hg,⟨hA0,hI⟩ | ⟨hA0,c4,hI⟩⟩:=h.2
    · right;left
      rw[if_pos hA0]at hg
      refine⟨hI.loop,λH16 hH16=>?_⟩
      obtain⟨I16,f16⟩:=hI.turn hH16 hlt
      exact fin H16 rest x' f' (keepS (by omega) hs f16) hr hg I16.e I16.dfr I16.g3
    · right;right
      rw[if_neg hA0]at hg
      refine⟨hI.loop,λH16 hH16=>?_⟩
      obtain⟨I16,f16⟩:=hI.turn hH16 hlt
      obtain⟨hcp,hs'⟩:=eF (vs:=[.int .u64 w]) I16.g3 rfl rfl
      refine⟨hcp,λH20 hH20=>?_⟩
      obtain⟨g20,f20⟩:=hs' H20 hH20
      have I20:=I16.put3 f20 g20 (by omega) m3
      exact fin H20 w x' f' (keepS (by omega) (keepS (by omega) hs f16) f20) hr hg I20.e I20.dfr I20.g3
end

section
variable {J:Sp->(Int->Prop)->Prop} {H0 H H':zV} {b:Blk} {x x':Hp} {G G':Int->Prop} {f f':PF} {th th':TF} {t ew:Int} {E E':List Ent} {W W':TW} {n:Int}
set_option maxRecDepth 100000 in
set_option maxHeartbeats 1000000 in
theorem rQ(O:JOK J)(S:TS J H0 H b x G f th t ew E W){key:Int}(hk:aG key):
  fx.C (some ⟨b.h,0,none⟩) t key H (λv H'=> ∃ok x' f' th' E' W',v=.tuple #[.bool ok,.int .i64 0]/\Op J H0 H H' b x x' G G f f' th th' t E E' W W' 0/\((ok=true/\(∃y∈E,y.k=key)/\E'=delK E key)\/(ok=false/\E'=E/\ ∀y∈E,y.k≠key))):=by
 refine HC.via λR hR=>fx.link ?_
 unfold fx.pt zY
 refine HC.mono (mB S.hs S.tb.tab rfl) ?_
 rintro _ H1 ⟨rfl,e1⟩
 refine⟨_,_,_,rfl,λc H2 hc hH2=>?_⟩
 have e2:Ext H1 H2:=Ext.push' hH2
 obtain⟨hcp,hs⟩:=eF (vs:=[.pointer (some ⟨b.h,0,none⟩),.int .u64 t]) (aF hc hH2) rfl rfl
 refine⟨hcp,λH3 hH3=>?_⟩
 obtain⟨g3,f3⟩:=hs H3 hH3
 have z1:=e1.size
 have e03:Ext H H3:=(e1.trans e2).fr_trans f3 (λj hj=>by simp at hj;omega)
 have hblt:=S.hs.blt
 have hcb:c ∉ [b.sp,b.m,b.s]:=λh=>by
  have:=hblt c (by simp at h;simp[Blk.all];omega)
  omega
 rw[if_pos rfl]
 refine⟨_,_,bA g3,?_⟩
 refine HC.mono (pz O (S.ext e03) hk) ?_
 rintro _ H4 ⟨e0,ok,x1,f1,th1,W1,rfl,hF,P0⟩
 have P:=P0.pre e03
 refine⟨_,_,rfl,?_⟩
 rcases hF with⟨rfl,y,hy,hyk,rfl⟩ | ⟨rfl,rfl,hno⟩
 case inr=>
  rw[if_neg (by decide)]
  exact hR _ _ ⟨false,x1,f1,th1,E,W1,rfl,P,.inr ⟨rfl,rfl,hno⟩⟩
 rw[if_pos rfl]
 subst hyk
 have T:=P.ts.tb
 have RR:=P.ts.right rfl
 have hi:=jH y.k
 refine HC.mono (lW hk) ?_
 rintro _ H5 ⟨rfl,rfl⟩
 have g5:=P0.fr.get hcb g3
 refine⟨_,rfl,_,_,bA g5,_,_,bA g5,?_⟩
 have hw:W1.ws[((idxK y.k:Nat):Int).toNat]?=some (W1.ws.getD (idxK y.k) 20):=by
  rw[show((idxK y.k:Nat):Int).toNat=idxK y.k by omega,List.getD_eq_getElem?_getD,List.getElem?_eq_getElem (by rw[T.len];exact hi)];rfl
 refine HC.mono (j4 P.ts.hs T.tab rfl T.vec (by omega) hw) ?_
 rintro _ H6 ⟨rfl,e6⟩
 refine⟨_,rfl,bA (e6.get g5),?_⟩
 obtain⟨o,A,B,hAB⟩: ∃o A B,W1.bs (idxK y.k)=A++(o,y.e)::B:=by
  obtain⟨i,hi',p,hp,hpe⟩:=T.bkx y hy
  obtain rfl:idxK y.k=i:=RR i hi' p hp y hy hpe.symm
  obtain⟨A,B,hAB⟩:=List.append_of_mem hp
  exact⟨p.1,A,B,by rw[hAB,<-hpe]⟩
 have hinB: ∀p,p∈A++(o,y.e)::B->p∈W1.bs (idxK y.k):=λp hp=>by rw[hAB];exact hp
 have hoi:(o,y.e)∈W1.bs (idxK y.k):=hinB _ (by simp)
 have hAi: ∀p∈A,p∈W1.bs (idxK y.k):=λp hp=>hinB _ (by simp[hp])
 have hBi: ∀p∈B,p∈W1.bs (idxK y.k):=λp hp=>hinB _ (by simp[hp])
 have hA: ∀p∈A,p.2≠y.e:=λp hp e=>by
  have h1:=(T.bk1 _ _ hi hi p (hAi p hp) _ hoi e).2
  have h2:=T.bkn _ hi
  rw[hAB,List.nodup_append]at h2
  exact h2.2.2 p hp (o,y.e) (by simp) h1
 have hch:=T.bkc _ hi
 rw[hAB]at hch
 refine HC.mono (nw O (P.ts.hs.ext e6) hch hA) ?_
 rintro _ H7 ⟨r1,x2,f2,rfl,S2,q2,fr2,g2⟩
 have g7:=fr2.get hcb (e6.get g5)
 refine⟨_,rfl,_,_,bA g7,?_⟩
 obtain⟨w1,gr1⟩:=S2.chn O g2.chn
 refine HC.mono (jp O S2 T.tab rfl T.vec (by omega) (by rw[T.len];omega) w1 gr1) ?_
 rintro _ H8 ⟨x3,S3,q3,fr3⟩
 rw[show((idxK y.k:Nat):Int).toNat=idxK y.k by omega]at S3
 have g8:=fr3.get hcb g7
 have htab:(th1.upd W1.vb (1,W1.ws.set (idxK y.k) r1)) t=some (11,[8*(E.length:Int),W1.ents,W1.vb,8*x1.ep]):=(TF.upd_ne th1 _ T.ne).trans T.tab
 refine⟨_,_,bA g8,_,_,bA g8,?_⟩
 refine HC.mono (ju S3 htab (by decide) rfl) ?_
 rintro _ H9 ⟨rfl,e9⟩
 refine⟨_,rfl,bA (e9.get g8),?_⟩
 obtain⟨ρ,r1',r2',r3'⟩:=T.rol
 have ro:=r3' _ hi _ hoi
 have rA: ∀p∈A,ρ p.1=idxK y.k+2:=λp hp=>r3' _ hi p (hAi p hp)
 have rB: ∀p∈B,ρ p.1=idxK y.k+2:=λp hp=>r3' _ hi p (hBi p hp)
 have far2: ∀u,ρ u≠idxK y.k+2->f2 u=f1 u:=λu hu=>g2.far u (λe=>hu (by rw[e];exact ro)) (λp hp e=>hu (by rw[<-e];exact rA p hp))
 obtain⟨a,A2,B2,hAB2⟩: ∃a A B,W1.sp=A++(a,y.e)::B:=by
  have h1:y.e∈W1.sp.map Prod.snd:=by rw[T.spe,List.mem_reverse];exact List.mem_map_of_mem hy
  obtain⟨p,hp,hpe⟩:=List.mem_map.1 h1
  obtain⟨A,B,h⟩:=List.append_of_mem hp
  exact⟨p.1,A,B,by rw[h,<-hpe]⟩
 have hinS: ∀p,p∈A2++(a,y.e)::B2->p∈W1.sp:=λp hp=>by rw[hAB2];exact hp
 have hai:=r2' _ (hinS (a,y.e) (by simp))
 have rA2: ∀p∈A2,ρ p.1=1:=λp hp=>r2' p (hinS p (by simp[hp]))
 have rB2: ∀p∈B2,ρ p.1=1:=λp hp=>r2' p (hinS p (by simp[hp]))
 have hA2: ∀p∈A2,p.2≠y.e:=λp hp e=>by
  have h1:(W1.sp.map Prod.snd).Nodup:=by
   have h2:=T.en
   rw[T.spe]
   unfold List.Nodup at h2⊢
   rw[List.pairwise_reverse]
   exact h2.imp (λh=>h.symm)
  rw[hAB2,List.map_append,List.nodup_append]at h1
  exact h1.2.2 p.2 (List.mem_map_of_mem hp) y.e (by simp) e
 have hchS:Chn f2 W1.ents (A2++(a,y.e)::B2):=by
  rw[<-hAB2]
  exact T.spc.cong (λp hp=>far2 _ (by rw[r2' p hp];omega))
 refine HC.mono (nw O (S3.ext e9) hchS hA2) ?_
 rintro _ H10 ⟨r2,x4,f3',rfl,S4,q4,fr4,g3'⟩
 have g10:=fr4.get hcb (e9.get g8)
 have far3: ∀u,ρ u≠1->f3' u=f2 u:=λu hu=>g3'.far u (λe=>hu (by rw[e];exact hai)) (λp hp e=>hu (by rw[<-e];exact rA2 p hp))
 refine⟨_,rfl,_,_,bA g10,?_⟩
 obtain⟨w2,gr2⟩:=S4.chn O g3'.chn
 refine HC.mono (mC O S4 htab (by decide) (by simp) w2 gr2) ?_
 rintro _ H11 ⟨x5,S5,q5,fr5⟩
 have g11:=fr5.get hcb g10
 refine⟨_,_,bA g11,?_⟩
 have hye:f3' y.e=some (y.k,y.v):=by rw[far3 _ (by rw[r1' y hy];omega),far2 _ (by rw[r1' y hy];omega)];exact T.ent y hy
 refine HC.mono (qh O S5 hye) ?_
 rintro _ H12 ⟨x6,S6,q6,fr6⟩
 have g12:=fr6.get hcb g11
 refine⟨_,_,bA g12,?_⟩
 refine HC.mono (ju S6 (TF.upd_at _ _ _) (by decide) rfl) ?_
 rintro _ H13 ⟨rfl,e13⟩
 refine⟨_,rfl,?_⟩
 have hf:=P.ts.few
 have hpos:0<E.length:=List.length_pos_of_mem hy
 have hw8:=isW8 (n:=E.length) (by omega)
 refine HC.mono (kD hw8) ?_
 rintro _ H14 ⟨rfl,e14⟩
 rw[if_pos (by omega),n5 (by omega)]
 have g14:=(e13.trans e14).get g12
 refine⟨_,_,rfl,_,_,bA g14,?_⟩
 rw[w64 (n:=(E.length:Int)-1) (by omega)]
 refine HC.mono (oM (n:=(E.length:Int)-1) (by omega)) ?_
 rintro _ H15 ⟨rfl,e15⟩
 refine⟨_,rfl,bA (e15.get g14),?_⟩
 have S15:=S6.ext ((e13.trans e14).trans e15)
 refine HC.mono (mC O S15 (TF.upd_at _ _ _) (by decide) (by simp) (isW8 (by omega)) (O.fix S15.j _)) ?_
 rintro _ H16 ⟨x7,S7,q7,fr7⟩
 rw[TF.upd_upd]at S7
 have rr:Rest 0 x1 x7:=((((((q2.trans q3:Rest 0 x1 x3).trans q4:Rest 0 x1 x4).trans q5:Rest 0 x1 x5).trans q6:Rest 0 x1 x6).trans q7))
 have he:x7.ep=x1.ep:=rr.ep
 have F1:Fr [b.sp,b.m,b.s] H5 H8:=(e6.fr.trans fr2).trans fr3
 have F2:Fr [b.sp,b.m,b.s] H5 H12:=((F1.trans (e9.fr.trans fr4)).trans fr5).trans fr6
 have F:Fr [b.sp,b.m,b.s] H5 H16:=F2.trans (((e13.trans e14).trans e15).fr.trans fr7)
 have hg: ∀u,ρ u≠0->ρ u≠1->ρ u≠idxK y.k+2->(f3'.upd y.e (20,20)) u=f1 u:=λu h0 h1 h2=>by
  rw[PF.upd_ne _ _ (λe=>h0 (by rw[e];exact r1' y hy)),far3 u h1,far2 u h2]
 have hye0:=r1' y hy
 obtain⟨T7,R7⟩:=Tb.del (g:=f3'.upd y.e (20,20)) (th':=(th1.upd W1.vb (1,W1.ws.set (idxK y.k) r1)).upd t (11,[8*((E.length:Int)-1),r2,W1.vb,8*x1.ep])) T RR hy hAB hAB2
  (g2.chn.cong (λp hp=>by
   have hp2:ρ p.1=idxK y.k+2:=by
    rcases List.mem_append.1 hp with h | h
    ·exact rA p h
    ·exact rB p h
   rw[PF.upd_ne _ _ (λe=>by rw[e,hye0]at hp2;omega),far3 _ (by rw[hp2];omega)]))
  (g3'.chn.cong (λp hp=>by
   have hp2:ρ p.1=1:=by
    rcases List.mem_append.1 hp with h | h
    ·exact rA2 p h
    ·exact rB2 p h
   exact PF.upd_ne _ _ (λe=>by rw[e,hye0]at hp2;omega)))
  (λz hz hzk=>by
   have hz0:=r1' z hz
   rw[PF.upd_ne _ _ (λe=>hzk (by rw[T.one hz hy e])),far3 _ (by rw[hz0];omega),far2 _ (by rw[hz0];omega)])
  (λi hi' hne p hp=>by
   have hp3:=r3' i hi' p hp
   exact hg _ (by rw[hp3];omega) (by rw[hp3];omega) (by rw[hp3];omega))
  (TF.upd_at _ _ _) ((TF.upd_ne _ _ (λe=>T.ne e.symm)).trans (TF.upd_at _ _ _))
 refine hR _ _ ⟨true,x7,_,_,_,_,rfl,P.trans ⟨⟨S7,by rw[he];exact T7,λ_=>R7,by rw[he];exact P.ts.ep,Nat.le_trans (List.length_filter_le _ _) P.ts.few⟩,rr,λ_ h=>h,F,λu hu hnn=>?_,λu h1 h2=>?_,rfl,λu hu=> .inl ?_,λu hnn=>?_⟩,.inl ⟨rfl,⟨y,hy,rfl⟩,rfl⟩⟩
 ·rw[PF.upd_ne _ _ (λe=>hu (.inl ⟨y,hy,e.symm⟩)),g3'.far u (λe=>hu (.inr (.inl ⟨(a,y.e),hinS _ (by simp),e.symm⟩))) (λp hp e=>hu (.inr (.inl ⟨p,hinS p (by simp[hp]),e⟩))),
   g2.far u (λe=>hu (.inr (.inr ⟨_,hi,_,hoi,e.symm⟩))) (λp hp e=>hu (.inr (.inr ⟨_,hi,p,hAi p hp,e⟩)))]
 ·rw[TF.upd_ne _ _ h1,TF.upd_ne _ _ h2]
 ·rcases hu with⟨z,hz,q⟩ | ⟨p,hp,q⟩ | ⟨i,hi',p,hp,q⟩
  ·exact .inl ⟨z,(jy.1 hz).1,q⟩
  ·refine .inr (.inl ⟨p,hinS p ?_,q⟩)
   rcases List.mem_append.1 hp with h | h
   ·simp[h]
   ·simp[h]
  ·have hp:p∈(if i=idxK y.k then A++B else W1.bs i):=hp
   by_cases r:i=idxK y.k
   ·rw[if_pos r]at hp
    refine .inr (.inr ⟨_,hi,p,?_,q⟩)
    rcases List.mem_append.1 hp with h | h
    ·exact hAi p h
    ·exact hBi p h
   ·rw[if_neg r]at hp;exact .inr (.inr ⟨i,hi',p,hp,q⟩)
 ·by_cases q:u=y.e
  ·rw[q,PF.upd_at];simp
  ·rw[PF.upd_ne _ _ q];exact g3'.some u (g2.some u hnn)
end
theorem ny: ∀(L:List (Int×Int)) (j:Nat),(L.flatMap bU).take (j*2)=(L.take j).flatMap bU
 | [],_=>by simp
 | p::l,0=>by simp
 | p::l,j+1=>by
  show(bU p++l.flatMap bU).take ((j+1)*2)=bU p++(l.take j).flatMap bU
  rw[List.take_append,fV,<-ny l j,List.take_of_length_le (by rw[fV];omega),show(j+1)*2-2=j*2 by omega]
theorem nz: ∀(L:List (Int×Int)) (j:Nat),(L.flatMap bU).drop (j*2)=(L.drop j).flatMap bU
 | [],_=>by simp
 | p::l,0=>by simp
 | p::l,j+1=>by
  show(bU p++l.flatMap bU).drop ((j+1)*2)=(l.drop j).flatMap bU
  rw[List.drop_append,fV,<-nz l j,List.drop_of_length_le (by rw[fV];omega),List.nil_append,show(j+1)*2-2=j*2 by omega]
theorem kJ: ∀L:List (Int×Int),fW (L.flatMap bU)=true
 | []=>rfl
 | p::l=>by show(true && (true && fW (l.flatMap bU)))=true;rw[kJ l];rfl
theorem oU{H:zV}{q c:Nat}{B:zW}{L:List (Int×Int)}{key:Int}(h:RefT H q B c L)(hl:L.length<=1000000):
  bK.C (some ⟨q,0,none⟩) key H (λv H'=> ∃ok B' c',v=.bool ok/\RefT H' q B' c' (delL L key)/\Fr (q::blks B) H H'/\(∀j∈blks B',j∈blks B\/H.size<=j)/\((ok=true/\ ∃p∈L,p.1=key)\/(ok=false/\ ∀p∈L,p.1≠key))):=by
 refine HC.via λR hR=>bK.link ?_
 unfold bK.pt zY
 refine HC.mono (jz (key:=key) h hl) ?_
 rintro _ H1 ⟨i,rfl,hF,rfl⟩
 refine⟨_,rfl,?_⟩
 rcases hF with⟨j,hj,rfl,hk,hno⟩ | ⟨rfl,hno⟩
 case inr=>
  rw[if_pos (by decide)]
  exact hR _ _ ⟨false,B,c,rfl,by rw[n7 L hno];exact h,Fr.refl _ _,λj hj=> .inl hj,.inr ⟨rfl,hno⟩⟩
 rw[if_neg (by omega)]
 intro b H2 hb hH2
 have e2:Ext H1 H2:=Ext.push' hH2
 have hle:=h.own.le
 have hq:=aY h.cell
 have h2:=h.ext e2
 have gb:=aF hb hH2
 obtain⟨a,ha,-,-⟩:=h2.at' hj
 subst ha
 refine⟨_,rfl,_,_,_,aK h2.cell,0,j,rfl,rfl,Nat.zero_le _,by omega,λsl hsl=>?_⟩
 rw[if_neg (by omega),Option.map_some]at hsl
 subst hsl
 refine fi (H:=H2) (n:=0) (c:=0) (xs:=[]) (ys:=(L.take j).flatMap bU) ⟨rfl,#[],gb,rfl,Nat.le_refl _,rfl,λj hj=>by simp at hj⟩ ?_ (by rw[jA,List.length_take];omega) (kJ _) rfl (by omega) ?_
 ·have:=h2.own.part (o:=0) (k:=j*2)
  rw[List.drop_zero,ny]at this
  exact this
 intro ap apC H3 ho3 f3 hn3
 have hqb:q≠b:=by omega
 have h3:RefT H3 q (some a) c L:=h2.keep f3 (λi hi=>by
  simp at hi
  rw[hi]
  refine⟨λe=>hqb e.symm,λhm=>?_⟩
  have:=h.own.lt b (by simpa using hm)
  omega)
 have hap: ∀i∈blks ap,H1.size<=i:=λi hi=>by
  have:=e2.size
  rcases hn3 i hi with h' | h'
  ·simp at h';omega
  ·omega
 refine⟨_,_,_,aK h3.cell,j+1,L.length,by rw[w64 (n:=(j:Int)+1) (by omega)];omega,rfl,by omega,hle,λsl hsl=>?_⟩
 refine fi (ys:=(L.drop (j+1)).flatMap bU) ho3 ?_ (by rw[jA,List.length_drop]) (kJ _) rfl (by omega) ?_
 ·rw[hsl]
  by_cases hc:c=j+1
  ·rw[if_pos hc,List.drop_of_length_le (by omega)]
   trivial
  ·rw[if_neg hc,Option.map_some]
   have:=h3.own.part (o:=(j+1)*2) (k:=L.length*2)
   rw[nz,List.take_of_length_le (by rw[jA,List.length_drop];omega)]at this
   exact this
 intro B' c' H4 ho4 f4 hn4
 have hqa:q ∉ blks ap:=λhm=>by have:=hap q hm;omega
 obtain⟨hcp,hs⟩:=eF (vs:=[.slice B' ((0+(j-0))+(L.length-(j+1))) c']) (f4.get hqa h3.cell) rfl rfl
 refine⟨hcp,λH5 hH5=>?_⟩
 obtain⟨g5,f5⟩:=hs H5 hH5
 have hdl:=qq L hj hk hno
 have hlen:(delL L key).length=(0+(j-0))+(L.length-(j+1)):=by rw[hdl,List.length_append,List.length_take,List.length_drop];omega
 have z3:=f3.size
 have z2:=e2.size
 have hB': ∀i∈blks B',H1.size<=i:=λi hi=>by
  rcases hn4 i hi with h' | h'
  ·exact hap i h'
  ·omega
 have hqn:q ∉ blks B':=λhm=>by have:=hB' q hm;omega
 refine hR _ _ ⟨true,B',c',rfl,⟨by rw[hlen];exact g5,?_,hqn⟩,?_,λi hi=> .inr (hB' i hi),.inl ⟨rfl,_,List.getElem_mem hj,hk⟩⟩
 ·rw[hlen,hdl,List.flatMap_append]
  have:=ho4.keep f5 (λi hi hm=>by simp at hm;exact hqn (hm▸hi))
  simpa using this
 ·have F:Fr (b::q::blks ap) H2 H5:=((f3.mono (λi hi _=>by simp at hi;simp[hi])).trans (f4.mono (λi hi _=>by simp[hi]))).trans (f5.mono (λi hi _=>by simp at hi;simp[hi]))
  refine(e2.fr (S:=q::blks (some a))).trans' F (λi hi _=>hi) (λi hi hl=>?_)
  rcases List.mem_cons.1 hi with h' | h'
  ·omega
  rcases List.mem_cons.1 h' with h' | h'
  ·simp[h']
  ·have:=hap i h';omega

section
variable {J:Sp->(Int->Prop)->Prop} {H0 A A' H H':zV} {b:Blk} {x x':Hp} {G G':Int->Prop} {f f':PF} {th th':TF} {t t2 ew ew2:Int} {E E' E2:List Ent} {W W' W2:TW} {n:Int} {P q c:Nat} {keys:List Int} {B:zW} {L:List (Int×Int)}
theorem Mv.le{m:Int}(h:Mv x x' G G' f f' th th' t E E' W W' n)(hm:n<=m):Mv x x' G G' f f' th th' t E E' W W' m:=⟨h.rest.le hm,h.gg,h.far,h.farT,h.vb,h.new,h.some⟩
theorem mD.le{m:Int}{Q Q2:List (Int×Int)->Prop}{v:Value}(h:mD J H0 A b x G f th t E W P q keys B n Q v A')(hm:n<=m)(hq: ∀l,Q l->Q2 l):mD J H0 A b x G f th t E W P q keys B m Q2 v A':=by
 obtain⟨x',G',f',th',E',W',B',c',L',h1,h2,h3,h4,h5,h6⟩:=h
 exact⟨x',G',f',th',E',W',B',c',L',h1,h2,h3.le hm,h4,h5,hq _ h6⟩
structure Two (f:PF) (th:TF) (t:Int) (E:List Ent) (W:TW) (t2 ew2:Int) (E2:List Ent) (W2:TW):Prop where
 tb:Tb f th t2 ew2 E2 W2
 right:jW E2 W2
 ap: ∀u,OwnW E W u-> ¬OwnW E2 W2 u
 ne:t2≠t/\t2≠W.vb/\W2.vb≠t/\W2.vb≠W.vb
theorem Tb.own(T:Tb f th t ew E W){u:Int}(h:OwnW E W u):f u≠none:=by
 rcases h with⟨y,hy,e⟩ | ⟨p,hp,e⟩ | ⟨i,hi,p,hp,e⟩
 ·rw[<-e,T.ent y hy];simp
 ·obtain⟨d,h⟩:=T.spc.some p hp
  rw[<-e,h];simp
 ·obtain⟨d,h⟩:=(T.bkc i hi).some p hp
  rw[<-e,h];simp
theorem Two.mv(D:Two f th t E W t2 ew2 E2 W2)(m:Mv x x' G G' f f' th th' t E E' W W' n):Two f' th' t E' W' t2 ew2 E2 W2:=by
 have hf: ∀u,OwnW E2 W2 u->f' u=f u:=λu hu=>m.far u (λh=>D.ap u h hu) (D.tb.own hu)
 obtain⟨n1,n2,n3,n4⟩:=D.ne
 refine⟨D.tb.cong (λp hp=>hf _ (.inr (.inl ⟨p,hp,rfl⟩))) (λi hi p hp=>hf _ (.inr (.inr ⟨i,hi,p,hp,rfl⟩))) (λy hy=>hf _ (.inl ⟨y,hy,rfl⟩)) (m.farT _ n1 n2) (m.farT _ n3 n4),D.right,λu hu h2=>?_,⟨n1,by rw[m.vb];exact n2,n3,by rw[m.vb];exact n4⟩⟩
 rcases m.new u hu with h | h
 ·exact D.ap u h h2
 ·exact D.tb.own h2 h
set_option maxRecDepth 100000 in
set_option maxHeartbeats 2000000 in
theorem rR(O:JOK J)(S:PS J H0 A b x G f th t ew E W P q keys B c L){what key val gen:Int}{up:Bool}(hw:atR what 6<=3):
  aO.C (some ⟨P,0,none⟩) what key val gen up A (mD J H0 A b x G f th t E W P q keys B 40 (λ_=>True)):=by
 have hwr:=iF (x:=what) (n:=6) (by decide)
 by_cases h01:atR what 6=0\/atR what 6=1
 ·exact HC.mono (ki O S h01) (λv A' h=>h.le (by omega) (λ_ _=>trivial))
 refine HC.via λR hR=>aO.link ?_
 unfold aO.pt zY
 intro b0 H1 hb0 hH1
 have e1:Ext A H1:=Ext.push' hH1
 have g1:=aF hb0 hH1
 refine⟨key,by rw[fF g1];rfl,?_⟩
 refine HC.mono (at_c (x:=key) (n:=40) (by decide)) ?_
 rintro _ H2 ⟨rfl,rfl⟩
 refine⟨_,rfl,val,by rw[fF g1];rfl,?_⟩
 refine HC.mono (at_c (x:=val) (n:=1000) (by decide)) ?_
 rintro _ H3 ⟨rfl,rfl⟩
 refine⟨_,rfl,what,by rw[aK g1];rfl,?_⟩
 refine HC.mono (at_c (x:=what) (n:=6) (by decide)) ?_
 rintro _ H4 ⟨rfl,rfl⟩
 have hk:=iF (x:=key) (n:=40) (by decide)
 have hv:=iF (x:=val) (n:=1000) (by decide)
 refine⟨_,rfl,?_⟩
 have S4:=S.ext e1
 have hkl:=S4.play.len
 have hkey:=S4.play.key (i:=(atR key 40).toNat) (by omega)
 have hkm:=S4.kw _ (n9 hkl hk)
 have rl:=S4.rel.rl
 have hkeys:=S4.ts.tb.keys
 have hfew:=S4.few
 have hlen:=S4.len
 obtain⟨d1,d2,d3,d4,d5⟩:=S4.dis
 have z1:=e1.size
 have stay: ∀{A2:zV} {x1:Hp} {G1:Int->Prop} {f1:PF} {th1:TF} {W1:TW} {n:Int},Op J H0 H4 A2 b x x1 G G1 f f1 th th1 t E E W W1 n->n<=40->R (.bool true) A2:=λ{A2 x1 G1 f1 th1 W1 n} P1 hn=>by
  have hr6:RefT A2 q B c L:=S4.ref.keep P1.fr (λj hj=>⟨λe=>d2 (e▸eG hj),λh=>d5 j h (eG hj)⟩)
  obtain⟨S7,fr,hb⟩:=S4.after P1.fr P1.ts hr6 (Fr.refl _ _) (λj hj=> .inl hj) rl.rel P1.gg
  exact hR _ _ ⟨x1,G1,f1,th1,_,W1,B,c,L,rfl,S7,P1.mv.le hn,e1.fr.trans fr,λj hj=> .inl hj,trivial⟩
 by_cases h2:atR what 6=2
 ·rw[if_pos h2]
  refine⟨_,rfl,_,S4.play.heap,_,S4.play.table,hk,_,hkey,?_⟩
  rw[k7 hkl hk]
  refine HC.mono (tR O S4.ts hkm.1) ?_
  rintro _ H5 ⟨u,ok,x1,f1,th1,W1,rfl,hor,P1⟩
  have fr1:=P1.fr
  have hr5:RefT H5 q B c L:=S4.ref.keep fr1 (λj hj=>⟨λe=>d2 (e▸eG hj),λh=>d5 j h (eG hj)⟩)
  have pl5:=S4.play.keep fr1 (λh=>d1 (eG h))
  refine⟨_,_,_,rfl,_,pl5.ref,?_⟩
  refine HC.mono (jz hr5 (by omega)) ?_
  rintro _ H6 ⟨i,rfl,hF,rfl⟩
  refine⟨_,rfl,?_⟩
  rcases hF with⟨j,hj,rfl,hjk,_⟩ | ⟨rfl,hnoL⟩
  ·rw[if_neg (by omega)]
   obtain⟨hE,q1,q2,q3,q4⟩:=rl.nth hj
   rw[hjk]at q1
   refine⟨λs A2=>A2=H6/\s=true,?_,λs A2 h=>?_⟩
   ·rcases hor with⟨rfl,y,hy,hyk,rfl⟩ | ⟨_,_,hno⟩
    case inr=>exact absurd q1 (hno _ (List.getElem_mem hE))
    have hye:=P1.ts.tb.oneK hy (List.getElem_mem hE) (hyk.trans q1.symm)
    rw[if_pos rfl,if_pos rfl]
    obtain⟨ra,hra,_,h2'⟩:=hr5.at' hj
    refine⟨_,pl5.ref,_,rfl,_,_,_,aK hr5.cell,ra,hra,⟨by omega,by omega⟩,_,by rw[show Int.toNat (j:Int)*2=j*2 by omega];exact h2',?_⟩
    refine HC.mono (kI q4) ?_
    rintro _ H8 ⟨rfl,rfl⟩
    exact⟨_,rfl,rfl,by rw[hye,q2];simp⟩
   ·obtain⟨rfl,rfl⟩:=h
    exact stay P1 (by omega)
  ·rw[if_pos (by decide)]
   rcases hor with⟨_,y,hy,hyk,_⟩ | ⟨rfl,rfl,hno⟩
   ·exact absurd hyk ((rl.none S4.nod hkl hk).1 hnoL y hy)
   ·exact stay P1 (by omega)
 rw[if_neg h2]
 by_cases h3:atR what 6=3
 ·rw[if_pos h3]
  refine⟨_,rfl,_,S4.play.heap,_,S4.play.table,hk,_,hkey,?_⟩
  rw[k7 hkl hk]
  refine HC.mono (rQ O S4.ts hkm.1) ?_
  rintro _ H5 ⟨ok,x1,f1,th1,E1,W1,rfl,P1,hor⟩
  have fr1:=P1.fr
  have hr5:RefT H5 q B c L:=S4.ref.keep fr1 (λj hj=>⟨λe=>d2 (e▸eG hj),λh=>d5 j h (eG hj)⟩)
  have pl5:=S4.play.keep fr1 (λh=>d1 (eG h))
  refine⟨_,_,rfl,λs A2=>R (.bool s) A2,?_,λs A2 h=>h⟩
  rw[if_pos rfl]
  refine⟨_,pl5.ref,?_⟩
  refine HC.mono (oU hr5 (by omega)) ?_
  rintro _ H11 ⟨ok2,B',c',rfl,hr11,fr11,hB',hor2⟩
  refine⟨_,rfl,?_⟩
  have hno:=rl.none S4.nod hkl hk
  have hfin:ok=ok2/\Rel keys E1 (delL L (atR key 40)):=by
   rcases hor with⟨rfl,hin,rfl⟩ | ⟨rfl,rfl,hnoE⟩
   ·refine⟨?_,(rl.del S4.nod hkl hk hkeys).rel⟩
    rcases hor2 with⟨rfl,_⟩ | ⟨_,h⟩
    ·rfl
    ·obtain⟨y,hy,e⟩:=hin
     exact absurd e (hno.1 h y hy)
   ·have hnoL:=hno.2 hnoE
    refine⟨?_,by rw[n7 L hnoL];exact rl.rel⟩
    rcases hor2 with⟨_,p,hp,e⟩ | ⟨rfl,_⟩
    ·exact absurd e (hnoL p hp)
    ·rfl
  obtain⟨rfl,hrel⟩:=hfin
  obtain⟨S7,fr,hb⟩:=S4.after fr1 P1.ts hr11 fr11 hB' hrel P1.gg
  rw[show(ok==ok)=true by simp]
  exact hR _ _ ⟨x1,G,f1,th1,E1,W1,B',c',_,rfl,S7,P1.mv.le (by omega),e1.fr.trans fr,λj hj=>(hb j hj).imp_right (λh=>by omega),trivial⟩
 omega
set_option maxRecDepth 100000 in
set_option maxHeartbeats 2000000 in
theorem pA(O:JOK J)(S:PS J H0 A b x G f th t ew E W P q keys B c L){what key val gen:Int}{up:Bool}(h4:atR what 6=4):
  aO.C (some ⟨P,0,none⟩) what key val gen up A (λv A'=>v=.bool true/\ ∃x' G' f',PS J H0 A' b x' G' f' th t ew E W P q keys B c L/\Rest 40 x x'):=by
 refine HC.via λR hR=>aO.link ?_
 unfold aO.pt zY
 intro b0 H1 hb0 hH1
 have e1:Ext A H1:=Ext.push' hH1
 have g1:=aF hb0 hH1
 refine⟨key,by rw[fF g1];rfl,?_⟩
 refine HC.mono (at_c (x:=key) (n:=40) (by decide)) ?_
 rintro _ H2 ⟨rfl,rfl⟩
 refine⟨_,rfl,val,by rw[fF g1];rfl,?_⟩
 refine HC.mono (at_c (x:=val) (n:=1000) (by decide)) ?_
 rintro _ H3 ⟨rfl,rfl⟩
 refine⟨_,rfl,what,by rw[aK g1];rfl,?_⟩
 refine HC.mono (at_c (x:=what) (n:=6) (by decide)) ?_
 rintro _ H4 ⟨rfl,rfl⟩
 refine⟨_,rfl,?_⟩
 have S4:=S.ext e1
 obtain⟨d1,d2,d3,d4,d5⟩:=S4.dis
 rw[if_neg (by omega),if_neg (by omega),if_pos h4]
 have hn:=iF (x:=val) (n:=40) (by decide)
 have hb0b:b0 ∉ [b.sp,b.m,b.s]:=λh=>by
  have:=S.ts.hs.blt b0 (eG h)
  omega
 refine⟨λi A2=>(0<=i/\i<=40)/\ ∃x' G' f',HS J H0 A2 b x' G' f' th/\Tb f' th t ew E W/\Rest i x x'/\(∀v,G v->G' v)/\Fr [b.sp,b.m,b.s] H4 A2,λi _=>(40-i).toNat,⟨⟨by omega,by omega⟩,x,G,f,S4.ts.hs,S4.ts.tb,Rest.refl x,λ_ h=>h,Fr.refl _ _⟩,?_⟩
 rintro i A2 ⟨hi,x1,G1,f1,S1,T1,r1,gg1,fr1⟩
 refine⟨val,by rw[fF (fr1.get hb0b g1)];rfl,?_⟩
 refine HC.mono (at_c (x:=val) (n:=40) (by decide)) ?_
 rintro _ A3 ⟨rfl,rfl⟩
 refine⟨_,rfl,?_⟩
 have pl:=S4.play.keep fr1 (λh=>d1 (eG h))
 by_cases hlt:i<atR val 40
 case neg=>
  rw[if_neg hlt]
  refine hR _ _ ⟨rfl,x1,G1,f1,⟨⟨S1,T1,λh=>S4.ts.right (h.trans (by rw[r1.ep])),by rw[r1.ep];exact S4.ts.ep,S4.ts.few⟩,pl,S4.ref.keep fr1 (λj hj=>⟨λe=>d2 (e▸eG hj),λh=>d5 j h (eG hj)⟩),S4.dis,S4.ge,S4.rel,λk hk=>⟨(S4.kw k hk).1,gg1 k (S4.kw k hk).2⟩,S4.nod⟩,r1.le (by omega)⟩
 rw[if_pos hlt]
 refine⟨_,rfl,_,pl.heap,?_⟩
 refine HC.mono (S1.cons_c O iN iN (O.nil S1.j) (O.nil S1.j)) ?_
 rintro _ A4 ⟨w,er,x2,G2,rfl,r2,gg2,fr2,hcase⟩
 refine⟨_,_,rfl,?_⟩
 have hd:((40:Int)-(i+1)).toNat< ((40:Int)-i).toNat:=by omega
 rw[w64 (n:=i+1) (by omega)]
 rcases hcase with⟨rfl,fw,_,S2⟩ | ⟨rfl,rfl,_,S2⟩
 ·exact⟨⟨⟨by omega,by omega⟩,x2,G2,_,S2,T1.grow fw,r1.trans r2,λv h=>gg2 v (gg1 v h),fr1.trans fr2⟩,hd⟩
 ·exact⟨⟨⟨by omega,by omega⟩,x2,G2,_,S2,T1,r1.trans r2,λv h=>gg2 v (gg1 v h),fr1.trans fr2⟩,hd⟩
end
