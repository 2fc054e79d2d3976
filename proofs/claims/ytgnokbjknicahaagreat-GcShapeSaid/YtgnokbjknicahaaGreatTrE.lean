/-
 All that is new is looked at until nothing is new (package trace): round, Drain. Proves nothing of any one statement.
-/
import Derived.Test.YtgnokbjknicahaaGreatTrD
set_option linter.unusedVariables false
set_option linter.unusedSimpArgs false
namespace Go.Proofs.YtgnokbjknicahaaGreat
open Go

theorem row1{H:zV}{c o:Nat}{v:Value}(h:hat H ⟨c,o,none⟩=some v):RowAt H ⟨c,o,none⟩ 0 [v]:=⟨by rw[addr_add_mk];exact h,trivial⟩
theorem TrAt.putSeen{H:zV}{b:Blk}{q:TB}{t:Tr}{es:Array MapEntry}{cl:Nat}{ks:List (Int×Value)}(h:TrAt H b q t)(he:Ents (intKey .i64) es.toList ks):TrAt (setBlk H q.s (.map es cl)) b q {t with seen:=ks}:=by
 have f:Fr [q.s] H (setBlk H q.s (.map es cl)):=Fr.set
 have l1:=h.lt q.s (by simp[TB.all])
 obtain⟨cs,h1,hr⟩:=h.tr
 obtain⟨es1,cl1,h2,hr2⟩:=h.frm
 have ne:=h.ne
 refine⟨⟨cs,f.get (by simp;omega) h1,hr⟩,⟨es1,cl1,f.get (by simp;omega) h2,hr2⟩,⟨es,cl,setBlk_get l1,he⟩,?_,λa ha=>Nat.lt_of_lt_of_le (h.cB a ha) f.size,h.clen,h.ne⟩
 have hc:=h.cards
 cases hb:q.cB with
 | none=>rw[hb]at hc;exact hc
 | some a=>
  rw[hb]at hc
  refine f.rowAt ?_ hc
  have:=ne.2.2.2 a.block (by rw[hb];simp)
  simp;omega
theorem Tg.putSeen{H H':zV}{b:Blk}{x:Hp}{q:TB}{t:Tr}{es:Array MapEntry}{cl:Nat}{ks:List (Int×Value)}(h:Tg H b x q t)(he:Ents (intKey .i64) es.toList ks)(hH:H'=setBlk H q.s (.map es cl)):Tg H' b x q {t with seen:=ks}:=by
 subst hH
 have f:Fr [q.s] H (setBlk H q.s (.map es cl)):=Fr.set
 have hn:q.s ∉ b.all:=h.apart q.s (by simp[TB.all])
 exact⟨⟨h.hp.keep f (λi hi=>by simp at hi;rw[hi];exact hn),h.ok,h.tr.putSeen he,h.apart⟩,h.even,h.cf,h.on⟩

structure RdT (H A:zV) (b:Blk) (x:Hp) (q:TB) (t:Tr) (B:zW) (c:Nat) (l:List Nat) (i:Nat) (sm:Bool) (s:Sp) (ks:List (Int×Value)):Prop where
 dr:Drains t.old t.tgt x.sp t.seen s ks
 tg:Tg A b {x with sp:=s} q {t with seen:=ks}
 ok:SeenOK ks
 fr:Fr (q.s::spB b) H A
 own:Own A 3 1 B l.length c (ivs (l.map λi:Nat=>(i:Int)))
 no:sm=false->s=x.sp/\ks=t.seen/\ ∀j,j<i-> ∀h:j<l.length,t.old l[j]=true\/(x.sp.mem.seg l[j]).n<=seenAt t.seen l[j]
 yes:sm=true->mu ks<mu t.seen

set_option maxRecDepth 100000 in
theorem tr_round_c{H:zV}{b:Blk}{x:Hp}{q:TB}{t:Tr}(T:Tg H b x q t)(hso:SeenOK t.seen)(htg:0<=t.tgt):
  trace_Trace_round.C (some ⟨q.t,0,none⟩) H (λv H'=> ∃(sm:Bool) (s:Sp) (ks:List (Int×Value)),v=.bool sm/\Drains t.old t.tgt x.sp t.seen s ks/\Tg H' b {x with sp:=s} q {t with seen:=ks}/\SeenOK ks/\Fr (q.s::spB b) H H'/\(sm=false->Drained t.old t.tgt s ks)/\(sm=true->mu ks<mu t.seen)):=by
 refine HC.via λR hR=>trace_Trace_round.link ?_
 unfold trace_Trace_round.pt zY
 obtain⟨p1,p2,p3,p4⟩:=T.s1
 refine⟨_,rfl,_,p1,_,rfl,_,p2,_,rfl,_,p3,_,rfl,_,p4,_,by rw[addr_add_mk];exact T.tr.tgtAt,?_⟩
 intro c1 H1 hc1 hH1
 have e1:Ext H H1:=Ext.push' hH1
 have g1:=push_get hc1 hH1
 have s1:H1.size=H.size+1:=by rw[hH1];simp
 have T1:=T.grow e1
 refine⟨row1 (e1.hat p1),row1 (e1.hat p2),row1 (e1.hat p3),row1 (e1.hat p4),?_⟩
 refine HC.mono (seg_Taken_c (gs:=[t.tgt]) T1.hp.cd.sp.mem T1.ok.mem (show SrcAt H1 (some ⟨c1,0,none⟩) (ivs [t.tgt])from row1 (by rw[hat_blk g1];rfl)) rfl (by decide)) ?_
 rintro _ H2 ⟨B,c,l,rfl,hl,how,hfr,e2⟩
 refine⟨_,_,_,rfl,?_⟩
 have e12:=e1.trans e2
 have T2:=T.grow e12
 have hlen:=hl.len
 have hlim:=T.ok.mem.lim
 have hBn: ∀j∈blks B,j ∉ q.s::spB b:=λj hj h=>by
  have h1:=hfr j hj
  rcases List.mem_cons.1 h with rfl | h
  ·have:=T.lt (.inr (show q.s∈q.all by simp[TB.all]));omega
  ·have:=T.lt (.inl (spB_all h));omega
 refine⟨λsm i A=>(0<=i/\i<=l.length)/\ ∃s ks,RdT H A b x q t B c l i.toNat sm s ks,λ_ i _=>(l.length-i).toNat,
  ⟨⟨by omega,by omega⟩,x.sp,t.seen,⟨.refl,T2,hso,e12.fr,how,λ_=>⟨rfl,rfl,λj hj=>by simp at hj⟩,λh=>by cases h⟩⟩,?_⟩
 rintro sm i H3 ⟨hi,s,ks,rd⟩
 by_cases hlt:i< (l.length:Int)
 case neg=>
  rw[if_neg hlt]
  refine hR _ _ ⟨sm,s,ks,rfl,rd.dr,rd.tg,rd.ok,rd.fr,λhsm=>?_,rd.yes⟩
  obtain⟨rfl,rfl,hall⟩:=rd.no hsm
  intro k hk hg ho
  have hm:k∈l:=by
   refine hl.perm.mem_iff.2 ?_
   unfold Mem.takenTo
   rw[List.mem_filter,List.mem_range]
   have hpos:0< (x.sp.mem.seg k).taken:=by
    have h1:=(T.ok.mem.seg k).taken
    have h2:=hk.2.2
    rw[show((k:Nat):Int).toNat=k by omega]at h2
    omega
   refine⟨by have:=hk.2.1;omega,?_⟩
   have h2:(x.sp.mem.seg k).gen∈[t.tgt]:=by rw[hg];simp
   rw[zX hpos,zX h2];simp
  obtain⟨j,hj,rfl⟩:=List.getElem_of_mem hm
  rcases hall j (by omega) hj with h | h
  ·rw[h]at ho;cases ho
  ·exact h
 rw[if_pos hlt]
 have hil:i.toNat<l.length:=by omega
 obtain⟨a,ha,hat3⟩:=ivs_at rd.own hil
 obtain⟨khas,klim,kpos,kgen⟩:=hl.has (List.getElem_mem hil)
 generalize hkk:l[i.toNat]=k at*
 have kgen':(x.sp.mem.seg k).gen=t.tgt:=by
  rcases kgen with h | h
  ·cases h
  ·simpa using h
 refine⟨a,ha,⟨hi.1,hlt⟩,(k:Int),hat3,⟨by omega,by omega⟩,(if t.old k then 1 else 0),?_,?_⟩
 ·rw[show((k:Nat):Int).toNat=k by omega];rw[Nat.mul_one,addr_add_mk,addr_add_mk,Nat.zero_add];exact rd.tg.tr.oldAt (k:=k) (by omega)
 have hw1:IntKind.wrap .i64 (i+1)=i+1:=w64 (by omega)
 have hs1:(i+1).toNat=i.toNat+1:=by omega
 have hdec:((l.length:Int)-(i+1)).toNat< ((l.length:Int)-i).toNat:=by omega
 by_cases ho:t.old k=true
 ·rw[if_pos (by rw[if_pos ho])]
  rw[hw1]
  refine⟨⟨⟨by omega,by omega⟩,s,ks,rd.dr,rd.tg,rd.ok,rd.fr,rd.own,λhsm=>?_,rd.yes⟩,hdec⟩
  obtain⟨h1,h2,h3⟩:=rd.no hsm
  refine⟨h1,h2,λj hj h=>?_⟩
  by_cases hji:j=i.toNat
  ·subst hji;left;rw[hkk];exact ho
  ·exact h3 j (by omega) h
 rw[if_neg (by rw[if_neg ho];decide)]
 have ho':t.old k=false:=by simpa using ho
 obtain⟨p1,p2,p3,p4⟩:=rd.tg.s1
 refine⟨_,p1,_,rfl,_,p2,_,rfl,_,p3,_,rfl,_,p4,?_⟩
 refine HC.mono (seg_Seg_c' rd.tg.hp.cd.sp.mem) ?_
 rintro _ H4 ⟨rfl,e4⟩
 refine⟨_,_,_,_,_,_,_,_,rfl,λc5 H5 hc5 hH5=>?_⟩
 obtain⟨hcp,hs⟩:=head_slot (s.mem.segOr k) hc5 hH5
 refine⟨hcp,λH6 hH6=>?_⟩
 obtain⟨e6,_,_,_,hr6⟩:=hs H6 hH6
 have e36:=e4.trans e6
 have c5n:H3.size<=c5:=by have:=e4.size;omega
 have hB3: ∀j∈blks B,j<H3.size:=rd.own.lt
 have hbq: ∀j,j∈b.all\/j∈q.all->j<H.size:=λj hj=>T.lt hj
 have hH3:H.size<=H3.size:=rd.fr.size
 refine⟨λsm' o A=> ∃(c':Nat) (s':Sp) (ks':List (Int×Value)),o=some ⟨c',0,none⟩/\H3.size<=c'/\RowAt A ⟨c',0,none⟩ 0 [.int .i64 (s'.mem.segOr k).gen,.int .i64 (s'.mem.segOr k).kind,.int .i64 (s'.mem.segOr k).n,.int .i64 ((s'.mem.segOr k).cards 0),.int .i64 ((s'.mem.segOr k).cards 1),.int .i64 ((s'.mem.segOr k).cards 2),.int .i64 ((s'.mem.segOr k).cards 3)]/\RdT H A b x q t B c l i.toNat sm' s' ks'/\H3.size<=A.size,
  λ_ _ A=>mu (match A[q.s]? with | some (.map es _)=>es.toList.map (λe=>((match e.key with | .int _ n=>n | _=>0),e.val)) | _=> []),?_,?_⟩
 ·exact⟨c5,s,ks,rfl,c5n,hr6,⟨rd.dr,rd.tg.grow e36,rd.ok,rd.fr.trans e36.fr,rd.own.ext e36,rd.no,rd.yes⟩,e36.size⟩
 rintro sm2 o H7 ⟨c',s',ks',rfl,hc',hr7,rd7,hsz⟩
 have hmap: ∀{A:zV} {s'':Sp} {ks'':List (Int×Value)},Tg A b {x with sp:=s''} q {t with seen:=ks''}->(match A[q.s]? with | some (.map es _)=>es.toList.map (λe=>((match e.key with | .int _ n=>n | _=>0),e.val)) | _=> [])=ks'':=by
  intro A s'' ks'' tg
  obtain⟨es,cl,h1,h2⟩:=tg.tr.seen
  rw[h1]
  show es.toList.map _=ks''
  have h3:=congrArg (List.map (λp:Value×Value=>((match p.1 with | .int _ n=>n | _=>0),p.2))) h2
  simp only[List.map_map]at h3
  refine Eq.trans ?_ (h3.trans ?_)
  ·rfl
  ·show List.map _ ks''=ks''
   conv=>rhs;rw[<-List.map_id ks'']
   rfl
 obtain⟨es,cl,hes,hen⟩:=rd7.tg.tr.seen
 obtain⟨hget,hs0,hs64⟩:=seen_getD rd7.ok (k:Int)
 obtain⟨ok7,ev7,hd7⟩:=rd7.dr.heads T.ok T.even
 have hhas7:s'.mem.has (k:Int):=hd7.has khas
 have hsg7:s'.mem.segOr k=s'.mem.seg k:=by unfold Mem.segOr;rw[if_pos hhas7,show((k:Nat):Int).toNat=k by omega]
 have hne0:(x.sp.mem.seg k).taken≠0:=by omega
 have hgen7:(s'.mem.seg k).gen=t.tgt:=((hd7.seg k hne0).1).trans kgen'
 have hn7:=(ok7.mem.seg k).n
 have hN:hat H7 ⟨c',2,none⟩=some (.int .i64 (s'.mem.seg k).n):=by rw[<-hsg7];exact hr7.2.2.1
 refine⟨_,rd7.tg.tr.sAt,_,rfl,es,cl,_,hes,hen,_,hget,_,rfl,_,hN,?_⟩
 by_cases hgo:seenAt ks' k< (s'.mem.seg k).n
 case neg=>
  rw[if_neg hgo,hw1]
  refine⟨⟨⟨by omega,by omega⟩,s',ks',rd7.dr,rd7.tg,rd7.ok,rd7.fr,rd7.own,λhsm=>?_,rd7.yes⟩,hdec⟩
  obtain⟨rfl,rfl,h3⟩:=rd7.no hsm
  refine⟨rfl,rfl,λj hj h=>?_⟩
  by_cases hji:j=i.toNat
  ·subst hji;right;rw[hkk];omega
  ·exact h3 j (by omega) h
 rw[if_pos hgo]
 refine⟨_,rd7.tg.tr.sAt,_,rfl,es,cl,_,hes,hen,_,hget,_,rd7.tg.tr.sAt,_,hN,_,rfl,es,cl,_,hes,hen,?_⟩
 intro es4 cl4 H8 hH8 hen8
 have T8:=rd7.tg.putSeen hen8 hH8
 have f8:Fr [q.s] H7 H8:=by rw[hH8];exact Fr.set
 have c'q:c' ∉ q.s::spB b:=λh=>by
  rcases List.mem_cons.1 h with h | h
  ·have:=hbq q.s (.inr (by simp[TB.all]));omega
  ·have:=hbq c' (.inl (spB_all h));omega
 have c'q1:c' ∉ [q.s]:=λh=>c'q (by simp at h;simp[h])
 have c'q2:c' ∉ spB b:=λh=>c'q (List.mem_cons_of_mem _ h)
 have hr8:=f8.rowAt (a:=⟨c',0,none⟩) c'q1 hr7
 have hr8b:=hr8
 simp only[RowAt,and_true,addr_add_mk,Nat.zero_add]at hr8b
 refine⟨_,hr8b.2.2.1,_,hr8b.2.1,?_⟩
 rw[hsg7]
 refine HC.mono (tr_look_c T8 ⟨by omega,by omega⟩ ⟨hs0,hs64⟩ hn7.2) ?_
 rintro _ H9 ⟨T9,f9⟩
 have hr9:=f9.rowAt (a:=⟨c',0,none⟩) c'q2 hr8
 refine⟨_,_,_,_,_,_,_,hr9,?_⟩
 intro c10 H10 hc10 hH10
 obtain⟨hcpA,hsA⟩:=boxed (vs:=[.int .i64 (s'.mem.segOr k).gen,.int .i64 (s'.mem.segOr k).kind,.int .i64 (s'.mem.segOr k).n,.int .i64 ((s'.mem.segOr k).cards 0),.int .i64 ((s'.mem.segOr k).cards 1),.int .i64 ((s'.mem.segOr k).cards 2),.int .i64 ((s'.mem.segOr k).cards 3)]) (H1:=H10) (push_get hc10 hH10) rfl rfl
 refine⟨hcpA,λH11 hH11=>?_⟩
 have h10get:=push_get hc10 hH10
 obtain⟨hr11,hEA⟩:=hsA H11 hH11
 have e11:Ext H9 H11:=hEA H9 (Ext.push' hH10) (by omega)
 have T11:=T9.grow e11
 obtain⟨p1,p2,p3,p4⟩:=T11.s1
 refine⟨_,p1,_,rfl,_,p2,_,rfl,_,p3,_,rfl,_,p4,?_⟩
 refine HC.mono (seg_Seg_c' T11.hp.cd.sp.mem) ?_
 rintro _ H12 ⟨rfl,e12'⟩
 have hb11: ∃cs:Array Value,H11[c10]?=some (.cells cs 76 (0,0))/\cs.size=7:=by
  rw[hputs_blk _ H10 _ 0 0 h10get]at hH11
  rw[hH11]
  exact⟨_,setBlk_get (lt_size h10get),by rw[splice_size];rfl⟩
 obtain⟨cs,hcs,hcsn⟩:=hb11
 generalize hs2:s'.look t.old t.tgt k (s'.mem.seg k).kind (seenAt ks' k) ((s'.mem.seg k).n-seenAt ks' k).toNat=s2 at*
 obtain⟨hcpB,hsB⟩:=boxed (vs:=[.int .i64 (s2.mem.segOr k).gen,.int .i64 (s2.mem.segOr k).kind,.int .i64 (s2.mem.segOr k).n,.int .i64 ((s2.mem.segOr k).cards 0),.int .i64 ((s2.mem.segOr k).cards 1),.int .i64 ((s2.mem.segOr k).cards 2),.int .i64 ((s2.mem.segOr k).cards 3)]) (H1:=H12) (e12'.get hcs) hcsn rfl
 refine⟨_,_,_,_,_,_,_,_,rfl,hcpB,λH13 hH13=>?_⟩
 obtain⟨hr13,hEB⟩:=hsB H13 hH13
 have e13:Ext H9 H13:=hEB H9 (e11.trans e12') (by omega)
 have T13:=T9.grow e13
 have hmu:=mu_put (ks:=ks') (k:=k) ⟨by omega,by omega⟩ hgo hn7.2
 have f78:Fr (q.s::spB b) H7 H9:=(f8.mono (λj hj _=>by simp at hj;simp[hj])).trans (f9.mono (λj hj _=>List.mem_cons_of_mem _ hj))
 have dr:=Drains.step (k:Int) rd7.dr hhas7 (by rw[show((k:Nat):Int).toNat=k by omega];exact hgen7) (by rw[show((k:Nat):Int).toNat=k by omega];exact ho') (by rw[show((k:Nat):Int).toNat=k by omega];exact hgo)
 rw[show((k:Nat):Int).toNat=k by omega,hs2]at dr
 refine⟨⟨c10,s2,_,rfl,?_,hr13,⟨dr,T13,rd7.ok.put hn7,rd7.fr.trans (f78.trans e13.fr),?_,(λh=>by cases h),λ_=>?_⟩,?_⟩,?_⟩
 ·have:=f78.size;omega
 ·exact(rd7.own.keep f78 hBn).ext e13
 ·by_cases hsm:sm2=true
  ·exact Nat.lt_trans hmu (rd7.yes hsm)
  ·have:=(rd7.no (by simpa using hsm)).2.1
   rw[<-this];exact hmu
 ·have:=f78.size;have:=e13.size;omega
 ·show mu _<mu _
  rw[hmap T13,hmap rd7.tg];exact hmu

set_option maxRecDepth 100000 in
theorem tr_Drain_c{H:zV}{b:Blk}{x:Hp}{q:TB}{t:Tr}(T:Tg H b x q t)(hso:SeenOK t.seen)(htg:0<=t.tgt):
  trace_Trace_Drain.C (some ⟨q.t,0,none⟩) H (λ_ H'=> ∃(s:Sp) (ks:List (Int×Value)),Drains t.old t.tgt x.sp t.seen s ks/\Drained t.old t.tgt s ks/\Tg H' b {x with sp:=s} q {t with seen:=ks}/\SeenOK ks/\Fr (q.s::spB b) H H'):=by
 refine HC.via λR hR=>trace_Trace_Drain.link ?_
 unfold trace_Trace_Drain.pt
 have hmap: ∀{A:zV} {s'':Sp} {ks'':List (Int×Value)},Tg A b {x with sp:=s''} q {t with seen:=ks''}->(match A[q.s]? with | some (.map es _)=>es.toList.map (λe=>((match e.key with | .int _ n=>n | _=>0),e.val)) | _=> [])=ks'':=by
  intro A s'' ks'' tg
  obtain⟨es,cl,h1,h2⟩:=tg.tr.seen
  rw[h1]
  show es.toList.map _=ks''
  have h3:=congrArg (List.map (λp:Value×Value=>((match p.1 with | .int _ n=>n | _=>0),p.2))) h2
  simp only[List.map_map]at h3
  refine Eq.trans ?_ (h3.trans ?_)
  ·rfl
  ·show List.map _ ks''=ks''
   conv=>rhs;rw[<-List.map_id ks'']
   rfl
 refine⟨λA=> ∃s ks,Drains t.old t.tgt x.sp t.seen s ks/\Tg A b {x with sp:=s} q {t with seen:=ks}/\SeenOK ks/\Fr (q.s::spB b) H A,
  λA=>mu (match A[q.s]? with | some (.map es _)=>es.toList.map (λe=>((match e.key with | .int _ n=>n | _=>0),e.val)) | _=> []),⟨_,_,.refl,T,hso,Fr.refl _ _⟩,?_⟩
 rintro H1 ⟨s,ks,dr,T1,so1,f1⟩
 refine HC.mono (tr_none_c T1.toTc) ?_
 rintro _ H2 ⟨rfl,rfl⟩
 refine⟨_,rfl,?_⟩
 rw[if_neg (show ¬t.over=true by rw[T.on];decide)]
 refine HC.mono (tr_round_c T1 so1 htg) ?_
 rintro _ H3 ⟨sm,s3,ks3,rfl,dr3,T3,so3,f3,hno,hyes⟩
 refine⟨_,rfl,?_⟩
 by_cases hsm:sm=true
 ·rw[if_pos hsm]
  refine⟨⟨s3,ks3,dr.trans dr3,T3,so3,f1.trans f3⟩,?_⟩
  show mu _<mu _
  rw[hmap T3,hmap T1];exact hyes hsm
 ·rw[if_neg hsm]
  exact hR _ _ ⟨s3,ks3,dr.trans dr3,hno (by simpa using hsm),T3,so3,f1.trans f3⟩
