/-
  Contracts of package eqtab: a list without an entry; Delete. Proves nothing of any one statement.
-/
import Derived.Test.YtiebboaeaoobmaaGreatTabG
set_option linter.unusedVariables false
set_option linter.unusedSimpArgs false
namespace Go.Proofs.YtiebboaeaoobmaaGreat
open Go

structure WoI (S:List Nat) (A0:zV) (rc:LoopState->Option Code->Obj) (st:LoopState) (pe:Option Code) (lp D b1 b2 b3 b4:Nat) (c1:Obj) (c2 c3 c4:Value) (T2 T3 T4:TypeId) (A:zV):Prop where
  e:Fr S A0 A
  loop:A[lp]?=some (rc st pe)
  dfr:A[D]?=some (.deferred (some []))
  g1:A[b1]?=some c1
  g2:A[b2]?=some (.cells #[c2] T2 (0,0))
  g3:A[b3]?=some (.cells #[c3] T3 (0,0))
  g4:A[b4]?=some (.cells #[c4] T4 (0,0))
section
variable {S T:List Nat} {A0 A A':zV} {rc:LoopState->Option Code->Obj} {st st':LoopState} {pe pe':Option Code} {lp D b1 b2 b3 b4:Nat} {c1:Obj} {c2 c3 c3' c4 c4':Value} {T2 T3 T4:TypeId}
theorem WoI.keep(h:WoI S A0 rc st pe lp D b1 b2 b3 b4 c1 c2 c3 c4 T2 T3 T4 A)(f:Fr T A A')(hS: ∀i∈T,(i∈S\/A0.size<=i)/\i≠lp/\i≠D/\i≠b1/\i≠b2/\i≠b3/\i≠b4):WoI S A0 rc st pe lp D b1 b2 b3 b4 c1 c2 c3 c4 T2 T3 T4 A':=
  ⟨h.e.trans' f (λj hj _=>hj) (λi hi hl=>(hS i hi).1.resolve_right (by omega)),f.get (λhi=>(hS _ hi).2.1 rfl) h.loop,f.get (λhi=>(hS _ hi).2.2.1 rfl) h.dfr,f.get (λhi=>(hS _ hi).2.2.2.1 rfl) h.g1,f.get (λhi=>(hS _ hi).2.2.2.2.1 rfl) h.g2,f.get (λhi=>(hS _ hi).2.2.2.2.2.1 rfl) h.g3,f.get (λhi=>(hS _ hi).2.2.2.2.2.2 rfl) h.g4⟩
theorem WoI.turn(h:WoI S A0 rc st pe lp D b1 b2 b3 b4 c1 c2 c3 c4 T2 T3 T4 A)(hA:A'=setBlk A lp (rc st' pe'))(hl:A0.size<=lp/\lp≠D/\lp≠b1/\lp≠b2/\lp≠b3/\lp≠b4):WoI S A0 rc st' pe' lp D b1 b2 b3 b4 c1 c2 c3 c4 T2 T3 T4 A'/\Fr [lp] A A':=by
  have f:Fr [lp] A A':=by rw[hA];exact Fr.set
  exact⟨⟨h.e.trans' f (λj hj _=>hj) (λi hi hl'=>by simp at hi;omega),by rw[hA];exact setBlk_at h.loop,f.get (by simp;omega) h.dfr,f.get (by simp;omega) h.g1,f.get (by simp;omega) h.g2,f.get (by simp;omega) h.g3,f.get (by simp;omega) h.g4⟩,f⟩
theorem WoI.put3(h:WoI S A0 rc st pe lp D b1 b2 b3 b4 c1 c2 c3 c4 T2 T3 T4 A)(f:Fr [b3] A A')(g:A'[b3]?=some (.cells #[c3'] T3 (0,0)))(hl:b3≠lp/\b3≠D/\b3≠b1/\b3≠b2/\b3≠b4)(hS:b3∈S):WoI S A0 rc st pe lp D b1 b2 b3 b4 c1 c2 c3' c4 T2 T3 T4 A':=
  ⟨h.e.trans (f.mono (λi hi _=>by simp at hi;rw[hi];exact hS)),f.get (by simp;omega) h.loop,f.get (by simp;omega) h.dfr,f.get (by simp;omega) h.g1,f.get (by simp;omega) h.g2,g,f.get (by simp;omega) h.g4⟩
theorem WoI.put4(h:WoI S A0 rc st pe lp D b1 b2 b3 b4 c1 c2 c3 c4 T2 T3 T4 A)(f:Fr [b4] A A')(g:A'[b4]?=some (.cells #[c4'] T4 (0,0)))(hl:b4≠lp/\b4≠D/\b4≠b1/\b4≠b2/\b4≠b3)(hS:b4∈S):WoI S A0 rc st pe lp D b1 b2 b3 b4 c1 c2 c3 c4' T2 T3 T4 A':=
  ⟨h.e.trans (f.mono (λi hi _=>by simp at hi;rw[hi];exact hS)),f.get (by simp;omega) h.loop,f.get (by simp;omega) h.dfr,f.get (by simp;omega) h.g1,f.get (by simp;omega) h.g2,f.get (by simp;omega) h.g3,g⟩
end
section
variable {J:Sp->(Int->Prop)->Prop} {H0 H H':zV} {b:Blk} {x x':Hp} {G G':Int->Prop} {f f':PF} {th th':TF} {t ew:Int} {E E':List Ent} {W W':TW} {n:Int}
def preW(l:List (Int×Int)):Nat->Int
  | 0=>0
  | k+1=>(l.map Prod.fst).getD k 0
structure Gone (f f':PF) (A B:List (Int×Int)) (o r:Int):Prop where
  chn:Chn f' r (A++B)
  at':f' o=some (20,20)
  far: ∀u,u≠o->(∀p∈A,p.1≠u)->f' u=f u
  some: ∀u,f u≠none->f' u≠none
set_option maxRecDepth 100000 in
set_option maxHeartbeats 1000000 in
theorem without_c(O:JOK J)(S:HS J H0 H b x G f th){t w e o:Int}{A B:List (Int×Int)}(hch:Chn f w (A++(o,e)::B))(hA: ∀p∈A,p.2≠e):
    eqtab_table_without.C (some ⟨b.h,0,none⟩) t w e H (λv H'=> ∃r x' f',v=.int .u64 r/\HS J H0 H' b x' G f' th/\Rest 0 x x'/\Fr [b.sp,b.m,b.s] H H'/\Gone f f' A B o r):=by
  refine HC.via λR hR=>eqtab_table_without.link ?_
  unfold eqtab_table_without.pt
  intro b1 H1 hb1 hH1 b2 H2 hb2 hH2 b3 H3 hb3 hH3 b4 H4 hb4 hH4
  have e1:Ext H H1:=Ext.push' hH1
  have e2:Ext H1 H2:=Ext.push' hH2
  have e3:Ext H2 H3:=Ext.push' hH3
  have e4:Ext H3 H4:=Ext.push' hH4
  have g1:=((e2.trans e3).trans e4).get (push_get hb1 hH1)
  have g2:=(e3.trans e4).get (push_get hb2 hH2)
  have g3:=e4.get (push_get hb3 hH3)
  have g4:=push_get hb4 hH4
  have s1:H1.size=H.size+1:=by rw[hH1];simp
  have s2:H2.size=H1.size+1:=by rw[hH2];simp
  have s3:H3.size=H2.size+1:=by rw[hH3];simp
  have s4:H4.size=H3.size+1:=by rw[hH4];simp
  have e04:=((e1.trans e2).trans e3).trans e4
  refine⟨_,_,box_row g1,?_⟩
  have hblt:=S.blt
  have nb: ∀j,j∈[b.sp,b.m,b.s]->j<H.size:=λj hj=>hblt j (by simp at hj;simp[Blk.all];omega)
  refine HC.mono pairs_c ?_
  rintro v H5 ⟨p,q,rfl,gp,gq,hpq,hp,hq,e5⟩
  refine⟨rfl,?_⟩
  intro rc lp H6 hlp hH6 vY hY
  have s5:=e5.size
  have hq5:=lt_size gq
  have hp5:=lt_size gp
  have hl6:H6[lp]?=some (rc .ready none):=push_get (by simp;omega) hH6
  have e56:Ext (H5.push (.deferred (some []))) H6:=Ext.push' hH6
  have hd6:H6[H5.size]?=some (.deferred (some [])):=e56.get (push_get rfl rfl)
  have e6:Ext H5 H6:=(Ext.push H5 _).trans e56
  have s6:H6.size=H5.size+2:=by rw[hH6];simp
  have e46:Ext H4 H6:=e5.trans e6
  have h20:=S.pic.no20
  obtain⟨SS,hSS⟩: ∃SS:List Nat,SS=b3::b4::[b.sp,b.m,b.s]:=⟨_,rfl⟩
  have I0:WoI SS H4 rc .ready none lp H5.size b1 b2 b3 b4 (.cells #[.pointer (some ⟨b.h,0,none⟩),.int .u64 t] 72 (0,0)) (.int .u64 e) (.int .u64 0) (.int .u64 0) 31 31 31 H6:=⟨e46.fr,hl6,hd6,e46.get g1,e46.get g2,e46.get g3,e46.get g4⟩
  have hlt:H4.size<=lp/\lp≠H5.size/\lp≠b1/\lp≠b2/\lp≠b3/\lp≠b4:=by omega
  have m3:b3∈SS:=by rw[hSS];simp
  have m4:b4∈SS:=by rw[hSS];simp
  have h0s:H0.size<=H.size:=S.e.size
  have keepS: ∀{A A':zV} {x':Hp} {f':PF} {c:Nat},H.size<=c->HS J H0 A b x' G f' th->Fr [c] A A'->HS J H0 A' b x' G f' th:=λ{A A' x' f' c} hc hs fr=>hs.keep fr (λj hj=>by simp at hj;omega) (λj hj h=>by simp at hj;have:=hblt j h;omega)
  have mS: ∀i,i∈[b.sp,b.m,b.s]->(i∈SS\/H4.size<=i)/\i≠lp/\i≠H5.size/\i≠b1/\i≠b2/\i≠b3/\i≠b4:=λi hi=>by
    have:=nb i hi
    exact⟨.inl (by rw[hSS];simp at hi⊢;omega),by omega⟩
  have hof: ∃rest,f o=some (e,rest)/\Chn f rest B:=by
    have h1:=hch.at' A.length (by simp)
    simp only[List.getElem_append_right (Nat.le_refl A.length),Nat.sub_self,List.getElem_cons_zero,List.drop_left']at h1
    obtain⟨_,d,h2,h3⟩:=h1
    exact⟨d,h2,h3⟩
  obtain⟨rest,hfo,hcB⟩:=hof
  have hnd:=hch.nodup h20
  rw[List.map_append,List.map_cons,List.nodup_append]at hnd
  obtain⟨nd1,nd2,nd3⟩:=hnd
  rw[List.nodup_cons]at nd2
  have hoA: ∀p∈A,p.1≠o:=λp hp=>nd3 p.1 (List.mem_map_of_mem hp) o (by simp)
  have hoB: ∀p∈B,p.1≠o:=λp hp q=>nd2.1 (List.mem_map.2 ⟨p,hp,q⟩)
  have hAB: ∀p∈A,∀q∈B,q.1≠p.1:=λp hp q hq e=>nd3 p.1 (List.mem_map_of_mem hp) q.1 (List.mem_cons_of_mem _ (List.mem_map_of_mem hq)) e.symm
  have fin: ∀(A1:zV) (r:Int) (x':Hp) (f':PF),HS J H0 A1 b x' G f' th->Rest 0 x x'->Gone f f' A B o r->Fr SS H4 A1->A1[H5.size]?=some (.deferred (some []))->A1[b3]?=some (.cells #[.int .u64 r] 31 (0,0))->
      Shut (H5.size::[]) A1 (λH18=> ∃r:Int,hat H18 (Addr.mk b3 0 none)=some (.int .u64 r)/\R (.int .u64 r) H18):=λA1 r x' f' hs hr hg fr hd h3=>by
    have fD:Fr [H5.size] A1 (A1.setIfInBounds H5.size (.deferred none)):=Fr.set
    refine shut_one hd ⟨r,hat_blk (fD.get (by simp;omega) h3),hR _ _ ⟨r,x',f',rfl,keepS (by omega) hs fD,hr,?_,hg⟩⟩
    have F:=fr.trans' fD (S'':=H5.size::SS) (λj hj _=>by simp[hj]) (λj hj _=>by simp at hj;simp[hj])
    refine(e04.fr (S:=[b.sp,b.m,b.s])).trans' F (λj hj _=>hj) (λj hj hl=>?_)
    rw[hSS]at hj
    simp only[List.mem_cons,List.not_mem_nil,or_false]at hj⊢
    omega
  have hAl:A.length< (A++(o,e)::B).length:=by simp
  refine FE.of2 (enters_of Tryz.func92 (by kernel_rfl) rfl) rfl (HC.mono (tpairs_loop (J:=J) (H0:=H0) (b:=b) (x:=x) (G:=G) (f:=f) (th:=th)
    (R0:=λA1=> ∃x' f',HS J H0 A1 b x' G f' th/\Rest 0 x x'/\Gone f f' A B o (if A=[]then rest else w)/\
      ((A=[]/\WoI SS H4 rc .done (some .ret) lp H5.size b1 b2 b3 b4 (.cells #[.pointer (some ⟨b.h,0,none⟩),.int .u64 t] 72 (0,0)) (.int .u64 e) (.int .u64 rest) (.int .u64 0) 31 31 31 A1)\/
       (A≠[]/\ ∃c4,WoI SS H4 rc .done (some (.exit 0)) lp H5.size b1 b2 b3 b4 (.cells #[.pointer (some ⟨b.h,0,none⟩),.int .u64 t] 72 (0,0)) (.int .u64 e) (.int .u64 0) c4 31 31 31 A1)))
    (λk A1=>k<=A.length/\HS J H0 A1 b x G f th/\WoI SS H4 rc .ready none lp H5.size b1 b2 b3 b4 (.cells #[.pointer (some ⟨b.h,0,none⟩),.int .u64 t] 72 (0,0)) (.int .u64 e) (.int .u64 0) (.int .u64 (preW (A++(o,e)::B) k)) 31 31 31 A1)
    h20 hch (e6.get gp) (e6.get gq) hpq ⟨Nat.zero_le _,S.ext (e04.trans e46),I0⟩ (λk A h=>h.2.1) ?_ ?_ ?_) (λv A1 h=>?_))
  · rintro k A1 A' ⟨h1,h2,h3⟩ fr
    exact⟨h1,keepS (by omega) h2 fr,h3.keep fr (λi hi=>by simp at hi;omega)⟩
  · rintro k hkl A1 ⟨hk,hs,hI⟩
    refine hY _ A1 _ hI.loop ⟨hI.loop,λH8 hH8=>?_⟩
    obtain⟨I8,f8⟩:=hI.turn hH8 hlt
    have hs8:=keepS (by omega) hs f8
    refine⟨_,hat_blk I8.g1,?_⟩
    obtain⟨d,hfd⟩:=hch.some _ (List.getElem_mem hkl)
    refine HC.mono (hs8.car_c hfd) ?_
    rintro _ H9 ⟨rfl,e9⟩
    have I9:=I8.keep (T:=[]) e9.fr (by simp)
    have hs9:=hs8.ext e9
    refine⟨_,_,rfl,_,hat_blk I9.g2,?_⟩
    have zA:=lt_size hI.loop
    have z8:=f8.size
    have z9:=e9.size
    rcases Nat.lt_or_ge k A.length with hkA | hkA
    · -- one ahead of it
      have hel:(A++(o,e)::B)[k]=A[k]:=List.getElem_append_left hkA
      rw[hel]at hfd⊢
      rw[if_neg (hA _ (List.getElem_mem hkA))]
      obtain⟨hcp,hs'⟩:=box_set (vs:=[.int .u64 A[k].1]) I9.g4 rfl rfl
      refine⟨hcp,λH14 hH14=>?_⟩
      obtain⟨g14,f14⟩:=hs' H14 hH14
      have I14:=I9.put4 f14 g14 (by omega) m4
      obtain⟨I15,f15⟩:=I14.turn (st':=.ready) (pe':=none) rfl hlt
      have hpre:preW (A++(o,e)::B) (k+1)=A[k].1:=by
        show((A++(o,e)::B).map Prod.fst).getD k 0=_
        rw[List.getD_eq_getElem?_getD,List.getElem?_map,List.getElem?_eq_getElem hkl,hel];rfl
      rw[<-hpre]at I15
      refine⟨I14.loop,true,rfl,λ_=>⟨⟨hkA,keepS (by omega) (keepS (by omega) hs9 f14) f15,I15⟩,?_,?_⟩,λh=>by(cases h)⟩
      · rw[f15.2 p (by have:=f14.size;omega) (by simp;omega),f14.2 p (by omega) (by simp;omega),(e9.fr (S:=[])).2 p (by omega) (by simp),f8.2 p (by omega) (by simp;omega)]
      · rw[f15.2 q (by have:=f14.size;omega) (by simp;omega),f14.2 q (by omega) (by simp;omega),(e9.fr (S:=[])).2 q (by omega) (by simp),f8.2 q (by omega) (by simp;omega)]
    have hkE:k=A.length:=by omega
    have hel:(A++(o,e)::B)[k]=(o,e):=by
      rw[List.getElem_append_right (by omega)]
      simp[hkE]
    rw[hel]at hfd⊢
    obtain rfl:d=rest:=by rw[hfo]at hfd;cases hfd;rfl
    rw[if_pos rfl]
    refine⟨_,hat_blk I9.g1,?_⟩
    refine HC.mono (hs9.cdr_c hfo) ?_
    rintro _ H10 ⟨rfl,e10⟩
    have I10:=I9.keep (T:=[]) e10.fr (by simp)
    have hs10:=hs9.ext e10
    refine⟨_,_,rfl,_,_,box_row I10.g1,?_⟩
    refine HC.mono (clear_c O hs10 hfo) ?_
    rintro _ H11 ⟨x1,hs11,r11,f11⟩
    have I11:=I10.keep f11 mS
    refine⟨_,hat_blk I11.g4,?_⟩
    cases hAc:A with
    | nil=>
      subst hAc
      have hk0:k=0:=by simpa using hkE
      subst hk0
      rw[if_pos (show preW (([]:List (Int×Int))++(o,e)::B) 0=0 from rfl)]
      obtain⟨hcp,hs'⟩:=box_set (vs:=[.int .u64 d]) I11.g3 rfl rfl
      refine⟨hcp,λH12 hH12=>?_⟩
      obtain⟨g12,f12⟩:=hs' H12 hH12
      have I12:=I11.put3 f12 g12 (by omega) m3
      obtain⟨I13,f13⟩:=I12.turn (st':=.done) (pe':=some .ret) rfl hlt
      refine⟨I12.loop,false,rfl,λh=>by(cases h),λ_=>⟨x1,_,keepS (by omega) (keepS (by omega) hs11 f12) f13,r11,⟨?_,PF.upd_at _ _ _,λu hu _=>PF.upd_ne _ _ hu,λu hu=>?_⟩,.inl ⟨rfl,I13⟩⟩⟩
      · rw[if_pos rfl]
        exact hcB.cong (λp hp=>PF.upd_ne _ _ (hoB p hp))
      · by_cases q:u=o
        · rw[q,PF.upd_at];simp
        · rw[PF.upd_ne _ _ q];exact hu
    | cons a0 A0=>
      have hne:A≠[]:=by rw[hAc];simp
      obtain⟨A2,z,hA2⟩: ∃A2 z,A=A2++[z]:=⟨A.dropLast,A.getLast hne,(List.dropLast_concat_getLast hne).symm⟩
      rw[<-hAc]
      have hkk:k=A2.length+1:=by rw[hkE,hA2];simp
      have hpre:preW (A++(o,e)::B) k=z.1:=by
        rw[hkk]
        show((A++(o,e)::B).map Prod.fst).getD A2.length 0=_
        rw[hA2,List.getD_eq_getElem?_getD]
        simp
      have hz:z∈A:=by rw[hA2];simp
      obtain⟨dz,hfz⟩:=hch.some z (List.mem_append_left _ hz)
      have hzo:=hoA z hz
      have hz1:=S.pic.prs z.1 _ _ hfz
      have hz0:z.1≠0:=λq=>by have:=hz1.at'.2.1;omega
      rw[hpre,if_neg hz0]
      refine⟨_,hat_blk I11.g1,_,hat_blk I11.g4,?_⟩
      rw[hpre]
      have hfz1:(f.upd o (20,20)) z.1=some (z.2,dz):=by rw[PF.upd_ne _ _ hzo];exact hfz
      obtain⟨wd,gd⟩:IsWord d/\G d:=S.chn O hcB
      refine HC.mono (hs11.setCdr_c O hfz1 wd gd) ?_
      rintro _ H13 ⟨rfl,x2,hs13,r13,f13⟩
      have I13:=I11.keep f13 mS
      obtain⟨I14,f14⟩:=I13.turn (st':=.done) (pe':=some (.exit 0)) rfl hlt
      have hfar: ∀u,u≠o->u≠z.1->((f.upd o (20,20)).upd z.1 (z.2,d)) u=f u:=λu h1 h2=>by rw[PF.upd_ne _ _ h2,PF.upd_ne _ _ h1]
      refine⟨_,rfl,I13.loop,false,rfl,λh=>by(cases h),λ_=>⟨x2,_,keepS (by omega) hs13 f14,r11.trans r13,⟨?_,?_,λu h1 h2=>hfar u h1 (λq=>h2 z hz q.symm),λu hu=>?_⟩,.inr ⟨hne,_,I14⟩⟩⟩
      · refine Chn.without hcB (λp hp=>hfar _ (hoB p hp) (hAB z hz p hp)) A hch hfo (.inr ⟨A2,z,hA2,PF.upd_at _ _ _,λp hp=>hfar _ (hoA p (by rw[hA2];simp[hp])) ?_⟩)
        rw[hA2,List.map_append,List.nodup_append]at nd1
        exact nd1.2.2 p.1 (List.mem_map_of_mem hp) z.1 (by simp)
      · rw[PF.upd_ne _ _ (λq=>hzo q.symm),PF.upd_at]
      · by_cases q:u=z.1
        · rw[q,PF.upd_at];simp
        · rw[PF.upd_ne _ _ q]
          by_cases q2:u=o
          · rw[q2,PF.upd_at];simp
          · rw[PF.upd_ne _ _ q2];exact hu
  · rintro A1 ⟨hk,_⟩
    exact absurd hk (by omega)
  · obtain⟨x',f',hs,hr,hg,⟨hA0,hI⟩ | ⟨hA0,c4,hI⟩⟩:=h.2
    · right;left
      rw[if_pos hA0]at hg
      refine⟨hI.loop,λH16 hH16=>?_⟩
      obtain⟨I16,f16⟩:=hI.turn hH16 hlt
      exact fin H16 rest x' f' (keepS (by omega) hs f16) hr hg I16.e I16.dfr I16.g3
    · right;right
      rw[if_neg hA0]at hg
      refine⟨hI.loop,λH16 hH16=>?_⟩
      obtain⟨I16,f16⟩:=hI.turn hH16 hlt
      obtain⟨hcp,hs'⟩:=box_set (vs:=[.int .u64 w]) I16.g3 rfl rfl
      refine⟨hcp,λH20 hH20=>?_⟩
      obtain⟨g20,f20⟩:=hs' H20 hH20
      have I20:=I16.put3 f20 g20 (by omega) m3
      exact fin H20 w x' f' (keepS (by omega) (keepS (by omega) hs f16) f20) hr hg I20.e I20.dfr I20.g3
end
