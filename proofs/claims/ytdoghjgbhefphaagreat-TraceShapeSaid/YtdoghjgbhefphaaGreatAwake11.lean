/-
  Two pairs, and a trace of them, in plain words. Proves nothing of any one statement.
-/
import Derived.Test.YtdoghjgbhefphaaGreatTsE
import Derived.Test.YtdoghjgbhefphaaGreatLx
set_option linter.unusedVariables false
set_option linter.unusedSimpArgs false
namespace Go.Proofs.YtdoghjgbhefphaaGreat
open Go

theorem visit_keep{s:Sp}(ok:SpOK s){O:Nat->Bool}{T w x:Int}(hw:IsWord w)(hx:s.mem.used x)(hne:x≠w / 8):(s.visit O T w).1.mem.get x=s.mem.get x:=by
  by_cases ho:isOldW O w
  case neg=>rw[Sp.visit_no ho]
  cases hf:s.mem.fwd w with
  | some v=>rw[Sp.visit_fwd ho hf]
  | none=>
    by_cases h0:s.mem.sizeOf w=0
    · rw[Sp.visit_0 ho hf h0]
    by_cases ha:(s.alloc T (s.mem.kindOf w) (s.mem.sizeOf w)).2.2=0
    case neg=>rw[Sp.visit_full ho hf h0 ha]
    rw[Sp.visit_go ho hf h0 ha]
    obtain⟨ok2,gr⟩:=Sp.alloc_ok ok ha
    have hr:=sizeOf_rng s.mem w
    have hlen:s.mem.sizeOf w=((s.mem.row (w / 8) (s.mem.sizeOf w).toNat).length:Int):=by rw[Mem.row_len];omega
    have gr2:Grown s.mem (s.alloc T (s.mem.kindOf w) (s.mem.sizeOf w)).1.mem (s.alloc T (s.mem.kindOf w) (s.mem.sizeOf w)).2.1 ((s.mem.row (w / 8) (s.mem.sizeOf w).toNat).length:Int) T (s.mem.kindOf w):=by rw[<-hlen];exact gr
    obtain⟨kp,_,_⟩:=gr2.lay ok.mem
    unfold Sp.moved
    show(((s.alloc T (s.mem.kindOf w) (s.mem.sizeOf w)).1.mem.sets _ _).set (w / 8) _).get x=_
    rw[Mem.set_get x hx.1 (by have:=hw.1;omega),if_neg hne]
    exact(kp.used x hx).2.1
def Plain0(m:Mem):Prop:= ∀k,(m.seg k).taken≠0->(m.seg k).gen=0/\(m.seg k).kind=0
theorem cons_step{s:Sp}{sz:Int->Nat}(I:Inv s sz)(hP:Plain0 s.mem)(hf:1<=s.mem.free){x y:Int}(hx:IsWord x)(hy:IsWord y)(gx:Good s.mem sz x)(gy:Good s.mem sz y):
    ∃sz',(s.put 0 1 [x,y]).2.2=0/\Inv (s.put 0 1 [x,y]).1 sz'/\Lift s.mem sz (s.put 0 1 [x,y]).1.mem sz'/\Pr (s.put 0 1 [x,y]).1.mem (s.put 0 1 [x,y]).2.1 1 x y/\Made s.mem (s.put 0 1 [x,y]).1.mem (s.put 0 1 [x,y]).2.1 1/\Plain0 (s.put 0 1 [x,y]).1.mem/\Good (s.put 0 1 [x,y]).1.mem sz' (s.put 0 1 [x,y]).2.1/\(s.put 0 1 [x,y]).1.cf=s.cf:=by
  have hal:(s.alloc 0 0 (([x,y]:List Int).length:Nat)).2.2=0:=Sp.alloc_can I.ok ⟨by omega,.inl ⟨by omega,rfl⟩⟩ hf
  have hall: ∀w∈([x,y]:List Int),IsWord w:=λw hw=>by simp at hw;rcases hw with rfl | rfl<;>assumption
  have hgg: ∀w∈([x,y]:List Int),Good s.mem sz w:=λw hw=>by simp at hw;rcases hw with rfl | rfl<;>assumption
  have hc:=Sp.cons_ok (tag:=1) I.ok I.even (.inl rfl) hx hy hf
  rw[show(1:Int)-1=0 from rfl]at hc
  obtain⟨c1,c2,c3,c4,c5⟩:=hc
  obtain⟨sz',I',l',g',f'⟩:=I.put (kind:=0) (tag:=1) (ws:=[x,y]) (by decide) rfl hall (λ_=>rfl) (λh=>by omega) (λ_=>hgg)
  refine⟨sz',c1,I',l',c2,c4,?_,(g' c1).2,f'⟩
  obtain⟨a,e1,gr,e2,_⟩:=Sp.put_ok (tag:=1) I.ok (alloc_may' hal) (.inl rfl) hall hal
  have sm:=Same'.sets [x,y] (s.alloc 0 0 (([x,y]:List Int).length:Nat)).1.mem a
  intro k hk
  rw[e2]at hk⊢
  obtain⟨q1,q2,q3,q4,_⟩:=sm.seg k
  rw[q4]at hk
  rw[q1,q2]
  by_cases hka:k=(a / 64).toNat
  · rw[hka];exact⟨gr.new.2.1,gr.new.2.2.1⟩
  · rw[gr.others k hka]at hk⊢
    exact hP k hk

section
variable {s:Sp} {sz:Int->Nat} {tr:Tr} {p q:Int}
theorem awake_law(I:Inv s sz)(hP:Plain0 s.mem)(hst:startE s 0 1 0=0)(B:Begun s.mem 0 1 tr)(hp:Pr s.mem p 1 8 20)(hq:Pr s.mem q 1 p p)(gp:Good s.mem sz p)(gq:Good s.mem sz q)(hpq:p / 8≠q / 8)
    {s3:Sp} {ks:List (Int×Value)} (hd:Drains tr.old 1 ((s.fresh (gensTo 0)).visit tr.old 1 q).1 tr.seen s3 ks) (hdd:Drained tr.old 1 s3 ks):
    ∃a:Int,IsWord ((s.fresh (gensTo 0)).visit tr.old 1 q).2/\IsWord a/\(((s.fresh (gensTo 0)).visit tr.old 1 q).1.mem.fwd q).isSome=true/\(((s.fresh (gensTo 0)).visit tr.old 1 q).1.mem.fwd p).isSome=false/\SpOK (s3.ended tr)/\
      ((s3.ended tr).mem.halfE ((s.fresh (gensTo 0)).visit tr.old 1 q).2 0=0/\(s3.ended tr).mem.get (((s.fresh (gensTo 0)).visit tr.old 1 q).2 / 8+0)=a)/\
      ((s3.ended tr).mem.halfE ((s.fresh (gensTo 0)).visit tr.old 1 q).2 1=0/\(s3.ended tr).mem.get (((s.fresh (gensTo 0)).visit tr.old 1 q).2 / 8+1)=a)/\
      ((s3.ended tr).mem.halfE a 0=0/\(s3.ended tr).mem.get (a / 8+0)=8)/\
      (s3.ended tr).mem.genOf ((s.fresh (gensTo 0)).visit tr.old 1 q).2=(1,true)/\(s3.ended tr).mem.words [0]=0/\(s3.ended tr).mem.words [1]=4/\isOldW tr.old q/\isOldW tr.old p:=by
  have hfree:2*(s.mem.nyoung 0:Int)+8<=s.mem.free:=by
    unfold startE at hst
    rw[if_neg (by decide)]at hst
    by_cases h2:s.mem.free-2*s.mem.nyoung 0-8<0
    · rw[if_pos h2]at hst;exact absurd hst (by decide)
    · omega
  have hV: ∀v,v∈[q]->IsWord v/\Good s.mem sz v:=λv hv=>by simp at hv;rw[hv];exact⟨hq.word,gq⟩
  have S:Static ⟨s.mem,sz,tr.old,1,(· ∈[q])⟩ 0 s.mem.free:=by
    refine⟨I.ok.mem,I.even,I.sound,λk hk=>?_,⟨by decide,by decide,by show(0:Int)<=1;decide,by show(1:Int)<=0+1;decide⟩,?_,λv hv=>hV v hv⟩
    · show tr.old k=true ↔ _
      rw[B.old k hk]
      unfold Mem.young
      rw[decide_eq_true_eq]
    · have hy: ∀Z:TZ,Z.m=s.mem->Z.O=tr.old->2*((Z.yk 0:Int)+Z.yk 1+Z.yk 2+Z.yk 3)+8<=s.mem.free:=λZ e1 e2=>by
        have h1:=yk_sum (Z:=Z) (g:=0) (by rw[e1];exact I.ok.mem) (by decide) (λk hk=>by rw[e1,e2];exact B.old k hk)
        rw[e1]at h1
        omega
      exact hy _ rfl rfl
  have t0:Tri ⟨s.mem,sz,tr.old,1,(· ∈[q])⟩ s.mem.free (λ_=>none) [] (s.fresh (gensTo 0)) sz:=
    Tri.begin' S (Sp.fresh_ok I.ok _) rfl rfl (λi j hi=>by
      show(if gensTo 0=[]\/((i:Nat):Int)∈gensTo 0 then(0:Int)else s.cur i j)=0
      rw[if_pos (.inr (mem_gensTo.2 ⟨by omega,hi⟩))])
  have hused: ∀x,s.mem.used x->tr.old (x / 64).toNat=true/\s.mem.kAt x=0/\s.mem.gAt x=0:=λx hx=>by
    obtain⟨g1,g2⟩:=hP _ hx.2.1.2.2
    have hlt:=S.lt hx
    refine⟨(S.old _ hlt.1).2 ⟨?_,?_⟩,g2,g1⟩
    · have:=hx.1
      rw[show(((x / 64).toNat:Nat):Int)=x / 64 by omega];exact hx.2.1
    · show(s.mem.seg (x / 64).toNat).gen<=0
      rw[g1];exact Int.le_refl _
  have pu0:s.mem.used (p / 8):=hp.at'.used hp.word
  have qu0:s.mem.used (q / 8):=hq.at'.used hq.word
  have oldP:isOldW tr.old p:=⟨hp.at'.1,by have:=hp.at'.2.1;omega,(hused _ pu0).1⟩
  have oldQ:isOldW tr.old q:=⟨hq.at'.1,by have:=hq.at'.2.1;omega,(hused _ qu0).1⟩
  obtain⟨fw1,al1,sz1,V⟩:=t0.visit S hq.word gq (λho=> .root (by show q∈[q];simp) ho)
  have hcards:tr.cards=[]:=by
    obtain⟨l,hl,e⟩:=B.cards
    rw[e]
    refine List.eq_nil_iff_forall_not_mem.2 λc hc=>?_
    obtain⟨k,hk,i,hi,_,h1,_⟩:=Mem.mem_dirty.1 hc
    have:=(hl.has hk).2.2.1
    have:=(hP k (by omega)).1
    omega
  have hd':Drains tr.old 1 (((s.fresh (gensTo 0)).visit tr.old 1 q).1.lookCards tr.old 1 tr.cards) tr.seen s3 ks:=by rw[hcards];exact hd
  obtain⟨fw,al,sz3,t3,le,fin⟩:=Tri.final S V.tri I.marked B rfl hd' hdd
  have hnoK: ∀x,s3.mem.used x->s3.mem.kAt x=0:=λx hx=>by
    rcases t3.cover x hx with hz | ⟨a,b,i,h1,h2,h3⟩
    · rw[(t3.kAt hz).1];exact(hused x hz).2.1
    · have im:=(t3.img a b h1).2
      have hf:=im.fit
      have hsa:=(t3.olds.mem a ((t3.al a).2 ⟨b,h1⟩)).1
      unfold Mem.kAt
      rw[h3,show(b+(i:Int)) / 64=b / 64 by omega]
      have:=im.kind
      unfold Mem.kAt at this
      rw[this]
      exact(hused a (I.sound.used a hsa).1).2.1
  have hbr:Broke ⟨s.mem,sz,tr.old,1,(· ∈[q])⟩ fw s3 s3:=⟨Same'.refl _,rfl,t3.ok,λx _ _ _=>rfl,λx hx _ hk _=>by rw[hnoK x hx]at hk;exact absurd hk (by decide)⟩
  obtain⟨hen,hok5⟩:=Sp.ended_spec (Z:=⟨s.mem,sz,tr.old,1,(· ∈[q])⟩) (tr:=tr) rfl t3.ok (λk hk ho=>t3.heads.has ((S.old k hk).1 ho).1)
  have hroots: ∀v,v∈[q]->Dn tr.old fw v:=λv hv=>by simp at hv;rw[hv];exact V.dn.mono le
  have t:Traced ⟨s.mem,sz,tr.old,1,(· ∈[q])⟩ 0 s.mem.free fw al sz3 tr s3 s3 (s3.ended tr).mem:=⟨S,t3,fin,hroots,hbr,hen,B,I.marked⟩
  have hr:((s.fresh (gensTo 0)).visit tr.old 1 q).2=Fw tr.old fw q:=V.val.trans (Fw_mono V.dn le).symm
  have hfq:(((s.fresh (gensTo 0)).visit tr.old 1 q).1.mem.fwd q).isSome=true:=by
    obtain⟨b,hb⟩:=V.dn oldQ
    have hw:=V.tri.word _ _ hb
    have hlt:=(V.tri.img _ _ hb).2
    have hzq:=(I.sound.two _ (gq.2 (old_tag oldQ)).1 (by rw[(hused _ qu0).2.1];decide)).1
    have hu:=hlt.here 0 (by show 0<sz (q / 8);omega)
    have hl:=V.tri.ok.mem.lim
    have hu1:=hu.2.1.2.1
    have hu0:=hu.1
    unfold Mem.fwd
    have hgq:isAddr (((s.fresh (gensTo 0)).visit tr.old 1 q).1.mem.get (q / 8))/\((s.fresh (gensTo 0)).visit tr.old 1 q).1.mem.get (q / 8) % 8=6:=by
      rw[show((s.fresh (gensTo 0)).visit tr.old 1 q).1.mem.get (q / 8)=b*8+6 from hw]
      exact⟨⟨by omega,by omega⟩,by omega⟩
    rw[if_pos ⟨V.tri.heads.used qu0,hgq⟩];rfl
  have hfp:(((s.fresh (gensTo 0)).visit tr.old 1 q).1.mem.fwd p).isSome=false:=by
    have hk:=visit_keep (s:=s.fresh (gensTo 0)) (Sp.fresh_ok I.ok _) (O:=tr.old) (T:=1) hq.word (x:=p / 8) pu0 hpq
    have hg:((s.fresh (gensTo 0)).visit tr.old 1 q).1.mem.get (p / 8)=8:=hk.trans hp.car
    unfold Mem.fwd
    rw[hg,if_neg (λh=>absurd h.2.2 (by decide))];rfl
  rw[hr]
  have sm:=t.sim hok5.mem
  have gwq:GW ⟨s.mem,sz,tr.old,1,(· ∈[q])⟩ fw q:=⟨hq.word,gq,V.dn.mono le⟩
  have hhalf: ∀{w a d:Int},Pr s.mem w 1 a d->s.mem.halfW w 0=a/\s.mem.halfW w 1=d:=λ{w a d} h=>by
    have u0:s.mem.used (w / 8+0):=by rw[Int.add_zero];exact h.at'.used h.word
    unfold Mem.halfW Mem.halfE
    rw[if_pos h.isPair,if_pos h.isPair,if_pos u0,if_pos h.used,if_pos rfl,if_pos rfl,Int.add_zero]
    exact⟨h.car,h.cdr⟩
  have h8: ∀{w a d:Int},Pr s.mem w 1 a d->w % 8≠2:=λ{w a d} h=>by have:=h.at'.2.1;omega
  obtain⟨gwp,e0⟩:=sm.half0 q gwq hq.isPair (h8 hq)
  obtain⟨_,e1⟩:=sm.half1 q gwq hq.isPair
  rw[(hhalf hq).1]at gwp e0
  rw[(hhalf hq).2]at e1
  obtain⟨_,e2⟩:=sm.half0 p gwp hp.isPair (h8 hp)
  rw[(hhalf hp).1]at e2
  have f8:Fw tr.old fw 8=8:=Fw_no (λh=>by have:=h.1.1;omega)
  have hz2: ∀{w a d:Int},Pr s.mem w 1 a d->Good s.mem sz w->isTag w/\sz (w / 8)=2:=λ{w a d} h hg=>by
    have ht:isTag w:=.inl h.at'.2.1
    exact⟨ht,(I.sound.two _ (hg.2 ht).1 (by rw[(hused _ (h.at'.used h.word)).2.1];decide)).1⟩
  have hv: ∀{w a d:Int},Pr s.mem w 1 a d->GW ⟨s.mem,sz,tr.old,1,(· ∈[q])⟩ fw w-> ∀i:Nat,i<2->(s3.ended tr).mem.halfE (Fw tr.old fw w) i=0/\(s3.ended tr).mem.get (Fw tr.old fw w / 8+i)=(s3.ended tr).mem.halfW (Fw tr.old fw w) i:=λ{w a d} h hg i hi=>by
    obtain⟨ht,h2⟩:=hz2 h hg.2.1
    have hu:=(t.at' hok5.mem hg ht i (by show i<sz (w / 8);omega)).2.1
    have hpr:=(sm.thing w hg (pair_size h.isPair)).1.2 h.isPair
    have he:(s3.ended tr).mem.halfE (Fw tr.old fw w) i=0:=by unfold Mem.halfE;rw[if_pos hpr,if_pos hu]
    exact⟨he,by unfold Mem.halfW;rw[if_pos he]⟩
  have hgen: ∀x,(s3.ended tr).mem.used x->(s3.ended tr).mem.gAt x=1:=λx hx=>by
    rw[(t.kind hx).2]
    obtain⟨hus,ho⟩:=t.used.1 hx
    rcases t3.cover x hus with hz | ⟨a,b,i,h1,h2,h3⟩
    · have:=(hused x hz).1
      rw[show tr.old (x / 64).toNat=false from ho]at this;cases this
    · have im:=(t3.img a b h1).2
      have hf:=im.fit
      unfold Mem.gAt
      rw[h3,show(b+(i:Int)) / 64=b / 64 by omega];exact im.gen
  have hsum:(al.map sz).sum=4:=by
    have hne:q / 8≠p / 8:=λe=>hpq e.symm
    have hperm:al.Perm [q / 8,p / 8]:=by
      rw[List.perm_ext_iff_of_nodup t3.olds.nodup (by simp[hne])]
      intro a
      rw[t3.al]
      simp only[List.mem_cons,List.not_mem_nil,or_false]
      constructor
      · rintro⟨b,hb⟩
        have hR:=t3.reach a b hb
        clear hb
        induction hR with
        | @root v hv ho => have : v = q := by simpa using hv
                           exact .inl (by rw[this])
        | @older x hu hn hs ho => have := (hused x hu).1
                                  rw[show tr.old (x / 64).toNat=false from hn]at this;cases this
        | @step a i h hi hs ho ih=>
          have hi2:i<sz a:=hi
          rcases ih with e | e
          · subst e
            rw[(hz2 hq gq).2]at hi2
            right
            rcases(show i=0\/i=1 by omega)with rfl | rfl
            · show s.mem.get (q / 8+((0:Nat):Int)) / 8=_
              rw[show q / 8+((0:Nat):Int)=q / 8 by omega,hq.car]
            · show s.mem.get (q / 8+1) / 8=_
              rw[hq.cdr]
          · subst e
            rw[(hz2 hp gp).2]at hi2
            exfalso
            rcases(show i=0\/i=1 by omega)with rfl | rfl
            · have h1:s.mem.get (p / 8+((0:Nat):Int))=8:=by rw[show p / 8+((0:Nat):Int)=p / 8 by omega,hp.car]
              have h2:isOldW tr.old (s.mem.get (p / 8+((0:Nat):Int))):=ho
              rw[h1]at h2
              have:=h2.1.1;omega
            · have h2:isOldW tr.old (s.mem.get (p / 8+1)):=ho
              rw[hp.cdr]at h2
              have:=h2.1.1;omega
      · rintro(e | e)
        · rw[e];exact(V.dn.mono le) oldQ
        · rw[e];exact gwp.2.2 oldP
    rw[perm_sum sz hperm]
    simp[(hz2 hq gq).2,(hz2 hp gp).2]
  have hab0:s.mem.above 0=0:=by
    unfold Mem.above Mem.cnt
    rw[List.countP_eq_zero]
    intro x _
    simp only[Bool.and_eq_true,decide_eq_true_eq]
    rintro⟨h1,h2⟩
    rw[(hused _ h1).2.2]at h2
    exact absurd h2 (by decide)
  have hw1:(s3.ended tr).mem.words [1]=4:=by
    have h1:=t.words hok5.mem
    rw[show(⟨s.mem,sz,tr.old,1,(· ∈[q])⟩:TZ).m.above 0=0 from hab0,show(al.map (⟨s.mem,sz,tr.old,1,(· ∈[q])⟩:TZ).sz).sum=4 from hsum,Mem.words_cnt hok5.mem]at h1
    rw[Mem.words_cnt hok5.mem,<-Mem.cnt_congr (m:=(s3.ended tr).mem) (p:=λx=>decide (([]:List Int)=[]\/(s3.ended tr).mem.gAt x∈([]:List Int))) (λx=>?_)]
    · exact h1
    · constructor
      · rintro⟨hu,_⟩
        exact⟨hu,decide_eq_true (.inr (by rw[hgen x hu];simp))⟩
      · rintro⟨hu,_⟩
        exact⟨hu,decide_eq_true (.inl rfl)⟩
  have hgo:=t.good hq.word gq (V.dn.mono le)
  have huq:=(hgo.2.1 (old_tag oldQ)).1
  have hmq:Fw tr.old fw q % 8=q % 8:=hgo.2.2
  have hql:=hok5.mem.lim
  have hq1:=hq.at'.2.1
  have huq1:=huq.2.1.2.1
  refine⟨Fw tr.old fw p,t3.fw_word S hq.word,t3.fw_word S hp.word,hfq,hfp,hok5,?_,?_,?_,?_,t.empty hok5.mem (k:=0) (Int.le_refl _) (by show(0:Int)≠1;decide),hw1,oldQ,oldP⟩
  · obtain⟨r1,r2⟩:=hv hq gwq 0 (by decide)
    exact⟨r1,r2.trans e0⟩
  · obtain⟨r1,r2⟩:=hv hq gwq 1 (by decide)
    exact⟨r1,r2.trans e1⟩
  · obtain⟨r1,r2⟩:=hv hp gwp 0 (by decide)
    exact⟨r1,(r2.trans e2).trans f8⟩
  · have:=genOf_old (m:=(s3.ended tr).mem) (w:=Fw tr.old fw q) ⟨by omega,by have:Fw tr.old fw q / 8 / 64< ((s3.ended tr).mem.limit:Int):=huq1;omega⟩ (by omega) huq.2.1
    rw[this,hgen _ huq]
end
end Go.Proofs.YtdoghjgbhefphaaGreat

namespace Go.Proofs.YtdoghjgbhefphaaGreat
open Go

theorem young_free{m:Mem}(ok:MemOK m)(g:Int):(m.nyoung g:Int)+m.free<=m.limit:=by
 rw[ok.free]
 unfold Mem.nyoung Mem.takenTo Mem.nfree
 rw[<-List.countP_eq_length_filter]
 have h:=countP_two (λi=>decide (0< (m.seg i).taken) && ((gensTo g).isEmpty || decide ((m.seg i).gen∈gensTo g))) (λk=>(m.seg k).taken==0) (List.range m.limit) (λx _ h1 h2=>by
  simp only[Bool.and_eq_true,decide_eq_true_eq,beq_iff_eq]at h1 h2
  omega)
 have h2:=List.countP_le_length (p:=λx=>(decide (0< (m.seg x).taken) && ((gensTo g).isEmpty || decide ((m.seg x).gen∈gensTo g))) || ((m.seg x).taken==0)) (l:=List.range m.limit)
 rw[List.length_range]at h2
 omega
set_option maxRecDepth 100000 in
theorem awake11_c{H:Array Obj}:morainelaw11_awake.C H (λv H'=>v=.bool true/\Ext H H'):=by
 refine HC.via λR hR=>morainelaw11_awake.link ?_
 unfold morainelaw11_awake.pt
 refine HC.mono (obj_New_c (limit:=20) (by decide)) ?_
 rintro _ H1 (⟨hc,rfl,e1⟩ | ⟨hc,b,x0,rfl,V1,hx,e1,hb1⟩)
 ·exact absurd (by decide) hc
 refine⟨_,_,rfl,?_⟩
 rw[if_pos rfl,onPtr_some]
 obtain⟨-,hp1,ok1⟩:=V1.inv
 have I0:Inv x0.sp (λ_=>0):=by
  refine⟨ok1,by rw[hx];exact even_fresh _,?_,?_⟩
  ·refine⟨λa h=>absurd rfl h,λa b h=>absurd rfl h,λa h=>absurd rfl h,λa h=>absurd rfl h,λa h=>?_⟩
   rw[hx]at h
   exact absurd rfl h.2.1.2.2
  ·intro a h
   rw[hx]at h
   exact absurd rfl h.2.1.2.2
 have P0:Plain0 x0.sp.mem:=λk hk=>by rw[hx]at hk;exact absurd rfl hk
 have F0:x0.sp.mem.free=20:=by rw[hx];rfl
 have C0:x0.sp.cf=20:=by rw[hx];rfl
 have L0:x0.sp.mem.limit=20:=by rw[hx];rfl
 have g8:Good x0.sp.mem (λ_=>0) 8:=⟨by decide,λh=>absurd h (by decide)⟩
 have g20:Good x0.sp.mem (λ_=>0) 20:=⟨by decide,λh=>absurd h (by decide)⟩
 obtain⟨sz1,k1,I1,l1,p1,m1,P1,gp1,c1⟩:=cons_step I0 P0 (by omega) (by decide) (by decide) g8 g20
 have hb0:=hp1.lt
 refine HC.mono (obj_Cons_c V1 (by decide) (by decide) (show cntOK (some (b,x0))from Sp.cf_count ok1 (by omega))) ?_
 rintro _ H2 ⟨rfl,V2,f2⟩
 refine⟨_,_,rfl,?_⟩
 have hpR:putR (some (b,x0)) 0 1 [8,20]=(x0.sp.put 0 1 [8,20]).2:=rfl
 have hpO:putO (some (b,x0)) 0 1 [8,20]=some (b,{x0 with sp:=(x0.sp.put 0 1 [8,20]).1}):=rfl
 rw[hpO]at V2
 rw[hpR]
 have m1f:=m1.free
 have m1l:=m1.keep.limit
 generalize (x0.sp.put 0 1 [8,20]).2.1=p at*
 generalize hs1:(x0.sp.put 0 1 [8,20]).1=s1 at*
 obtain⟨sz2,k2,I2,l2,q2,m2,P2,gq2,c2⟩:=cons_step I1 P1 (by omega) p1.word p1.word gp1 gp1
 obtain⟨-,hp2,ok2⟩:=V2.inv
 refine HC.mono (obj_Cons_c V2 p1.word p1.word (show cntOK (some (b,({x0 with sp:=s1}:Hp)))from Sp.cf_count ok2 (by show s1.cf<_;omega))) ?_
 rintro _ H3 ⟨rfl,V3,f3⟩
 refine⟨_,_,rfl,?_⟩
 have hqR:putR (some (b,({x0 with sp:=s1}:Hp))) 0 1 [p,p]=(s1.put 0 1 [p,p]).2:=rfl
 have hqO:putO (some (b,({x0 with sp:=s1}:Hp))) 0 1 [p,p]=some (b,{x0 with sp:=(s1.put 0 1 [p,p]).1}):=rfl
 rw[hqO]at V3
 rw[hqR]
 have m2f:=m2.free
 have m2l:=m2.keep.limit
 have hpq:p / 8≠(s1.put 0 1 [p,p]).2.1 / 8:=λe=>by
  have:=m2.fresh 0 (by decide)
  rw[<-e]at this
  exact this (by simpa using p1.at'.used p1.word)
 have p2:=p1.keep m2.keep
 have gp2:=l2 p gp1
 generalize (s1.put 0 1 [p,p]).2.1=q at*
 generalize hs2:(s1.put 0 1 [p,p]).1=s2 at*
 obtain⟨-,hp3,ok3⟩:=V3.inv
 have hyf:=young_free ok3.mem 0
 have hst:startE s2 0 1 0=0:=by
  unfold startE
  rw[if_neg (by decide),if_neg ?_]
  have:({x0 with sp:=s2}:Hp).sp.mem=s2.mem:=rfl
  rw[this]at hyf
  omega
 refine HC.mono (tr_Start_c hp3 ok3 I2.even (by show s2.cf<_;omega) (by decide) (by decide) (by decide)) ?_
 rintro v4 H4 ⟨hno,hyes⟩
 obtain⟨tb,t,rfl,T4,B,hq4,f4⟩:=hyes hst
 refine⟨_,_,rfl,?_⟩
 rw[if_pos rfl,onPtr_some]
 have ht:t.tgt=1:=B.tgt
 refine HC.mono (tr_Old_c T4.toTc q2.word) ?_
 rintro _ H5 ⟨rfl,e5⟩
 have T5:=T4.grow e5
 refine⟨_,rfl,?_⟩
 have oldq0:isOldW t.old q:=by
  have hu:s2.mem.used (q / 8):=q2.at'.used q2.word
  have hl:=I2.ok.mem.lim
  have h1:=hu.1
  have h2:=hu.2.1.2.1
  refine⟨q2.at'.1,by have:=q2.at'.2.1;omega,?_⟩
  rw[B.old _ (by omega)]
  unfold Mem.young
  refine decide_eq_true ⟨by rw[show(((q / 8 / 64).toNat:Nat):Int)=q / 8 / 64 by omega];exact hu.2.1,?_⟩
  exact Int.le_of_eq (P2 _ hu.2.1.2.2).1
 rw[if_pos (decide_eq_true ⟨T4.on,oldq0⟩)]
 refine HC.mono (tr_Reached_c T5.toTc q2.word) ?_
 rintro _ H6 ⟨rfl,e6⟩
 have T6:=T5.grow e6
 refine⟨_,rfl,?_⟩
 have nofwd: ∀{w a d:Int},Pr s2.mem w 1 a d->a % 8≠6->(s2.mem.fwd w).isSome=false:=λ{w a d} h h6=>by
  unfold Mem.fwd
  rw[h.car,if_neg (λr=>h6 r.2.2)];rfl
 have hfq0:(({x0 with sp:=s2.fresh (gensTo 0)}:Hp).sp.mem.fwd q).isSome=false:=nofwd q2 (by have:=p1.at'.2.1;omega)
 rw[if_neg (by rw[show(({({x0 with sp:=s2}:Hp)with sp:=({x0 with sp:=s2}:Hp).sp.fresh (gensTo 0)}:Hp).sp.mem.fwd q).isSome=false from hfq0];simp[T4.on,oldq0])]
 refine HC.mono (tr_Old_c T6.toTc (w:=20) (by decide)) ?_
 rintro _ H7 ⟨rfl,e7⟩
 have T7:=T6.grow e7
 refine⟨_,rfl,?_⟩
 rw[if_neg (by
  intro h
  have:=(of_decide_eq_true h).2.1.1
  omega)]
 refine HC.mono (tg_Visit_c T7 q2.word) ?_
 rintro _ H8 ⟨rfl,T8,f8⟩
 refine⟨_,rfl,?_⟩
 refine HC.mono (tr_Reached_c T8.toTc q2.word) ?_
 rintro _ H9 ⟨rfl,e9⟩
 have T9:=T8.grow e9
 refine⟨_,rfl,?_⟩
 refine HC.mono (tr_Reached_c T9.toTc p1.word) ?_
 rintro _ H10 ⟨rfl,e10⟩
 have T10:=T9.grow e10
 refine⟨_,rfl,?_⟩
 refine HC.mono (tr_Drain_c T10 (B.seenOK I2.ok.mem) (by rw[ht];decide)) ?_
 rintro _ H11 ⟨s3,ks3,hdr,hdd,T11,_,f11⟩
 refine HC.mono (tr_End_c T11) ?_
 rintro _ H12 ⟨hp12,htr12,f12⟩
 rw[ht]at hdr hdd
 obtain⟨a,wr,wa,fq,fp,ok5,⟨a1,a2⟩,⟨b1,b2⟩,⟨d1,d2⟩,hgen,w0,w1,oldq,oldp⟩:=awake_law (ks:=ks3) I2 P2 hst B p2 q2 gp2 gq2 hpq hdr hdd
 rw[ht]
 have hp5:HpAt H12 b {x0 with sp:=s3.ended t,ep:=IntKind.wrap .u64 (x0.ep+1)}:=hp12
 have V12:View H12 (some ⟨b.h,0,none⟩) (some (b,{x0 with sp:=s3.ended t,ep:=IntKind.wrap .u64 (x0.ep+1)})):=.real hp5 ok5
 have fq':(({x0 with sp:=((s2.fresh (gensTo 0)).visit t.old 1 q).1}:Hp).sp.mem.fwd q).isSome=true:=fq
 have fp':(({x0 with sp:=((s2.fresh (gensTo 0)).visit t.old 1 q).1}:Hp).sp.mem.fwd p).isSome=false:=fp
 generalize hrr:((s2.fresh (gensTo 0)).visit t.old 1 q).2=r at*
 obtain⟨X,hX⟩: ∃X:Hp,X={x0 with sp:=s3.ended t,ep:=IntKind.wrap .u64 (x0.ep+1)}:=⟨_,rfl⟩
 rw[<-hX]at V12 hp5
 have hM:X.sp.mem=(s3.ended t).mem:=by rw[hX]
 have okX:SpOK X.sp:=by rw[hX];exact ok5
 rw[<-hM]at a1 a2 b1 b2 d1 d2 hgen w0 w1
 have hmo:mof (some (b,X))=X.sp.mem:=rfl
 refine HC.mono (obj_Car_c V12 wr) ?_
 rintro _ H13 ⟨rfl,e13⟩
 refine⟨a,0,by rw[hmo,a1,if_pos rfl,a2],?_⟩
 refine HC.mono (obj_Cdr_c (V12.ext e13) wr) ?_
 rintro _ H14 ⟨rfl,e14⟩
 have e1214:=e13.trans e14
 refine⟨a,0,by rw[hmo,b1,if_pos rfl,b2],?_⟩
 refine HC.mono (obj_Car_c (V12.ext e1214) wa) ?_
 rintro _ H15 ⟨rfl,e15⟩
 have e1215:=e1214.trans e15
 refine⟨8,0,by rw[hmo,d1,if_pos rfl,d2],?_⟩
 have hp15:=hp5.ext e1215
 refine⟨_,hp15.hPtr,?_⟩
 refine HC.mono (card_Gen_c hp15.cd wr) ?_
 rintro _ H16 ⟨rfl,e16⟩
 refine⟨1,true,by rw[hgen],?_⟩
 rw[if_pos (by
  rw[Bool.or_eq_true];right;exact fq')]
 rw[if_neg (by
  rw[Bool.or_eq_true]
  rintro(h | h)
  ·exact(of_decide_eq_true h) ⟨T9.on,oldp⟩
  ·rw[fp']at h;cases h)]
 rw[if_pos rfl,if_pos rfl,if_pos rfl,if_pos rfl,if_pos rfl,if_pos rfl,if_pos rfl]
 have hp16:=hp15.ext e16
 refine⟨_,hp16.hPtr,_,rfl,_,hp16.cd.cPtr,λb17 H17 hb17 hH17=>?_⟩
 have e17:Ext H16 H17:=Ext.push' hH17
 have hp17:=hp16.ext e17
 refine HC.mono (space_Words_c (gs:=[0]) hp17.cd.sp okX (show SrcAt H17 (some ⟨b17,0,none⟩) (ivs [0])from⟨by rw[addr_add_mk,hat_blk (push_get hb17 hH17)];rfl,trivial⟩) rfl (by decide)) ?_
 rintro _ H18 ⟨rfl,e18⟩
 refine⟨_,rfl,?_⟩
 rw[if_pos w0]
 have hp18:=hp17.ext e18
 refine⟨_,hp18.hPtr,_,rfl,_,hp18.cd.cPtr,λb19 H19 hb19 hH19=>?_⟩
 have e19:Ext H18 H19:=Ext.push' hH19
 have hp19:=hp18.ext e19
 refine HC.mono (space_Words_c (gs:=[1]) hp19.cd.sp okX (show SrcAt H19 (some ⟨b19,0,none⟩) (ivs [1])from⟨by rw[addr_add_mk,hat_blk (push_get hb19 hH19)];rfl,trivial⟩) rfl (by decide)) ?_
 rintro _ H20 ⟨rfl,e20⟩
 refine⟨_,rfl,hR _ _ ⟨by rw[w1];rfl,?_⟩⟩
 have E1220:=(((e1215.trans e16).trans e17).trans e18).trans (e19.trans e20)
 have hown: ∀j∈own (some (b,x0)),H.size<=j:=λj hj=>hb1 j (by simp[own]at hj;simp[Blk.all];omega)
 have hsp: ∀j∈spB b,H.size<=j:=λj hj=>hb1 j (spB_all hj)
 have z1:=e1.size
 have z2:=f2.size
 have z3:=f3.size
 have E4:Ext H H4:=(((e1.fr_trans f2 hown).fr_trans f3 hown).fr_trans f4 hsp)
 have E7:=((E4.trans e5).trans e6).trans e7
 have E10:=((E7.fr_trans f8 hsp).trans e9).trans e10
 have hqs: ∀j∈tb.all,H.size<=j:=λj hj=>by have:=hq4 j hj;omega
 have E11:Ext H H11:=E10.fr_trans f11 (λj hj=>by
  rcases List.mem_cons.1 hj with h | h
  ·rw[h];exact hqs _ (by simp[TB.all])
  ·exact hsp j h)
 have E12:Ext H H12:=E11.fr_trans f12 (λj hj=>by
  rcases List.mem_cons.1 hj with h | h
  ·rw[h];exact hb1 _ (by simp[Blk.all])
  ·rcases List.mem_cons.1 h with h | h
   ·rw[h];exact hqs _ (by simp[TB.all])
   ·exact hsp j h)
 exact E12.trans E1220
end Go.Proofs.YtdoghjgbhefphaaGreat

