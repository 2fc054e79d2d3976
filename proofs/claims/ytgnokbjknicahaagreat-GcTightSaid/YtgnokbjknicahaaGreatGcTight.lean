/- The law GcTight of morainelaw13 holds: called with any arguments it answers true and leaves what it was handed as it was. No condition. -/
import Derived.Test.YtgnokbjknicahaaGreatAwake13
import Derived.Test.YtgnokbjknicahaaGreatLx
import Derived.Test.YtgnokbjknicahaaGreatRead
set_option linter.unusedVariables false
set_option linter.unusedSimpArgs false
namespace Go.Proofs.YtgnokbjknicahaaGreat.gcTight
open Go Go.Proofs.YtgnokbjknicahaaGreat
open Go.ChangeShapes Go.WideShapes Go.ChangeAt Go.RowKit

def tk(m:Mem)(g:Int):Nat:=(List.range m.limit).countP λk=>decide (0< (m.seg k).taken/\(m.seg k).gen<=g)
theorem tk_neg{m:Mem}(ok:MemOK m):tk m (-1)=0:=by
 unfold tk
 rw[List.countP_eq_zero]
 intro k _
 rw[decide_eq_true_eq]
 have:0<=(m.seg k).gen:=(ok.seg k).gen.1
 omega
theorem tk_le{m:Mem}(ok:MemOK m)(g:Int):tk m g<=1024:=by
 have:=List.countP_le_length (p:=λk=>decide (0< (m.seg k).taken/\(m.seg k).gen<=g)) (l:=List.range m.limit)
 rw[List.length_range]at this
 have:=ok.lim
 unfold tk;omega
theorem tk_step(m:Mem)(g:Int){l:List Nat}(h:IsTaken m [g] l):tk m g=tk m (g-1)+l.length:=by
 rw[h.perm.length_eq]
 unfold Mem.takenTo tk
 rw[<-List.countP_eq_length_filter,<-countP_two]
 ·refine List.countP_congr λk _=>?_
  simp only[Bool.or_eq_true,Bool.and_eq_true,decide_eq_true_eq,List.isEmpty_cons,Bool.false_eq_true,false_or,List.mem_singleton]
  omega
 ·intro k _ h1 h2
  simp only[Bool.and_eq_true,Bool.or_eq_true,decide_eq_true_eq,List.isEmpty_cons,Bool.false_eq_true,false_or,List.mem_singleton]at h1 h2
  omega
theorem above_neg{m:Mem}(ok:MemOK m):(m.above (-1):Int)=m.words []:=by
 rw[Mem.words_cnt ok]
 unfold Mem.above
 refine congrArg Nat.cast (Mem.cnt_congr λx=>?_)
 have h:0<=m.gAt x:=(ok.seg _).gen.1
 constructor
 ·rintro⟨hu,_⟩;exact⟨hu,by simp⟩
 ·rintro⟨hu,_⟩;exact⟨hu,decide_eq_true (by generalize m.gAt x=y at*;omega)⟩
theorem above_le(m:Mem)(g:Int):m.above g<=65536:=by
 unfold Mem.above Mem.cnt
 refine Nat.le_trans List.countP_le_length ?_
 rw[List.length_range,tops_eq];exact Nat.le_refl _
theorem uk_sum(Z:TZ)(ok:MemOK Z.m): ∀al:List Int,Z.uk al ((0:Nat):Int)+Z.uk al ((1:Nat):Int)+Z.uk al ((2:Nat):Int)+Z.uk al ((3:Nat):Int)=(al.map Z.sz).sum
 | []=>rfl
 | a::al=>by
  have ih:=uk_sum Z ok al
  have hk:0<=Z.m.kAt a/\Z.m.kAt a<=3:=(ok.seg _).kind
  simp only[TZ.uk_cons,List.map_cons,List.sum_cons]
  rw[<-ih]
  generalize Z.m.kAt a=y at*
  have:y=0\/y=1\/y=2\/y=3:=by omega
  rcases this with rfl | rfl | rfl | rfl<;>simp<;>omega
theorem tight{s0 s3 s4 s5:Sp}{sz0 sz:Int->Nat}{g:Int}{tr:Tr}{roots young:List Int}{fw:Int->Option Int}{al:List Int}(C:Colled s0 sz0 g g tr roots young fw al sz s3 s4 s5):64*(tk s5.mem g:Int)<=2*(s5.mem.words []-s5.mem.above g)+256:=by
 have t:=C.t
 have S:=t.S
 have hlim:8<=s0.mem.limit/\s0.mem.limit<=1024:=S.ok.lim
 have l3:s3.mem.limit=s0.mem.limit:=t.tri.heads.limit
 have l5:s5.mem.limit=s0.mem.limit:=t.ended.limit.trans (t.broke.same.limit.trans l3)
 have seg5: ∀k,tr.old k=false->(s5.mem.seg k).gen=(s3.mem.seg k).gen/\(s5.mem.seg k).taken=(s3.mem.seg k).taken:=λk hk=>by
  obtain⟨a1,_,_,a4,_⟩:=t.ended.seg k hk
  obtain⟨b1,_,_,b4,_⟩:=t.broke.same.seg k
  exact⟨a1.trans b1,a4.trans b4⟩
 have h1:tk s5.mem g<=(List.range s0.mem.limit).countP λk=>decide (0< (s3.mem.seg k).taken) && decide ((s0.mem.seg k).taken=0):=by
  unfold tk
  rw[l5]
  refine countP_le _ λk hk h=>?_
  rw[List.mem_range]at hk
  rw[decide_eq_true_eq]at h
  have ho:tr.old k=false:=by
   cases q:tr.old k with
   | false=>rfl
   | true=>
    have h':(s5.mem.seg k).taken=0:=t.ended.gone k (by omega) q
    omega
  obtain⟨e1,e2⟩:=seg5 k ho
  have h3:0< (s3.mem.seg k).taken:=by rw[<-e2];exact h.1
  rw[Bool.and_eq_true,decide_eq_true_eq,decide_eq_true_eq]
  refine⟨h3,?_⟩
  by_cases h0:(s0.mem.seg k).taken=0
  ·exact h0
  ·exfalso
   obtain⟨q1,_⟩:=t.tri.heads.seg k h0
   have:tr.old k=true:=(S.old k (by omega)).2 ⟨⟨by omega,by show((k:Nat):Int)< (s0.mem.limit:Nat);omega,by show(s0.mem.seg ((k:Nat):Int).toNat).taken≠0;rw[show((k:Nat):Int).toNat=k by omega];exact h0⟩,by
    show(s0.mem.seg k).gen<=g
    have e:(s3.mem.seg k).gen=(s0.mem.seg k).gen:=q1
    rw[<-e,<-e1];exact h.2⟩
   rw[ho]at this;cases this
 have nf: ∀m:Mem,MemOK m->(List.range m.limit).countP (λk=>decide (0< (m.seg k).taken))+m.nfree=m.limit:=λm okm=>by
  unfold Mem.nfree
  rw[<-countP_two]
  ·have e:(List.range m.limit).countP (λk=>decide (0< (m.seg k).taken) || ((m.seg k).taken==0))=(List.range m.limit).length:=List.countP_eq_length.2 (λk _=>by
    have:0<=(m.seg k).taken:=(okm.seg k).taken
    simp only[Bool.or_eq_true,decide_eq_true_eq,beq_iff_eq];omega)
   rw[e,List.length_range]
  ·intro k _ h1 h2
   simp only[decide_eq_true_eq,beq_iff_eq]at h1 h2
   omega
 have h2:((List.range s0.mem.limit).countP λk=>decide (0< (s3.mem.seg k).taken) && decide ((s0.mem.seg k).taken=0))+(List.range s0.mem.limit).countP (λk=>decide (0< (s0.mem.seg k).taken))=(List.range s0.mem.limit).countP λk=>decide (0< (s3.mem.seg k).taken):=by
  rw[<-countP_two]
  ·refine List.countP_congr λk hkr=>?_
   rw[List.mem_range]at hkr
   have t0:0<=(s0.mem.seg k).taken:=(S.ok.seg k).taken
   have t3:0<=(s3.mem.seg k).taken:=(t.tri.ok.mem.seg k).taken
   simp only[Bool.or_eq_true,Bool.and_eq_true,decide_eq_true_eq]
   have hh:(s0.mem.seg k).taken≠0->0< (s3.mem.seg k).taken:=λh0=>by
    have h0':(TZ.m ⟨s0.mem,sz0,tr.old,g,(· ∈roots)⟩).has k:=⟨by omega,by
     show((k:Nat):Int)< (s0.mem.limit:Nat)
     omega,by show(s0.mem.seg ((k:Nat):Int).toNat).taken≠0;rw[show((k:Nat):Int).toNat=k by omega];exact h0⟩
    have:=(t.tri.heads.has h0').2.2
    rw[show((k:Nat):Int).toNat=k by omega]at this
    omega
   by_cases h0:(s0.mem.seg k).taken=0
   ·rw[h0];omega
   ·have:=hh h0;omega
  ·intro k _ q1 q2
   simp only[Bool.and_eq_true,decide_eq_true_eq]at q1 q2
   omega
 have n0:=nf s0.mem S.ok
 have n3:=nf s3.mem t.tri.ok.mem
 rw[l3]at n3
 have f0:=S.ok.free
 have f3:=t.tri.ok.mem.free
 obtain⟨c,cap⟩:=t.tri.cap
 have cf:=cap.free
 have f0':s0.mem.free=(s0.mem.nfree:Int):=f0
 have k0:=cap.le 0 (by decide)
 have k1:=cap.le 1 (by decide)
 have k2:=cap.le 2 (by decide)
 have k3:=cap.le 3 (by decide)
 have r0:=Sp.fill_rng t.tri.ok g 0
 have r1:=Sp.fill_rng t.tri.ok g 1
 have r2:=Sp.fill_rng t.tri.ok g 2
 have r3:=Sp.fill_rng t.tri.ok g 3
 have us:=uk_sum ⟨s0.mem,sz0,tr.old,g,(· ∈roots)⟩ S.ok al
 have hw:=t.words C.inv.ok.mem
 have ha:s5.mem.above g<=s0.mem.above g:=by
  unfold Mem.above Mem.cnt
  refine countP_le _ λx _ h=>?_
  simp only[Bool.and_eq_true,decide_eq_true_eq]at h⊢
  obtain⟨hu,hg⟩:=h
  obtain⟨u1,u2⟩:=t.used.1 hu
  have hk:=(t.kind hu).2
  rcases t.tri.cover _ u1 with hz | ⟨a,b,i,q1,q2,q3⟩
  ·have e:s3.mem.gAt x=s0.mem.gAt x:=(t.tri.kAt hz).2
   exact⟨hz,by rw[<-e,<-hk];exact hg⟩
  ·exfalso
   have im:=(t.tri.img a b q1).2
   have hf:=im.fit
   have e:s3.mem.gAt x=g:=by
    have:=im.gen
    unfold Mem.gAt at this⊢
    rw[q3,show(b+(i:Int)) / 64=b / 64 by omega];exact this
   rw[hk,e]at hg;omega
 have hw':s5.mem.words []=(s0.mem.above g:Int)+((al.map sz0).sum:Nat):=hw
 have us':TZ.uk ⟨s0.mem,sz0,tr.old,g,(· ∈roots)⟩ al ((0:Nat):Int)+TZ.uk ⟨s0.mem,sz0,tr.old,g,(· ∈roots)⟩ al ((1:Nat):Int)+TZ.uk ⟨s0.mem,sz0,tr.old,g,(· ∈roots)⟩ al ((2:Nat):Int)+TZ.uk ⟨s0.mem,sz0,tr.old,g,(· ∈roots)⟩ al ((3:Nat):Int)=(al.map sz0).sum:=us
 have e3:(TZ.T ⟨s0.mem,sz0,tr.old,g,(· ∈roots)⟩)=g:=rfl
 rw[e3]at k0 k1 k2 k3
 generalize TZ.uk ⟨s0.mem,sz0,tr.old,g,(· ∈roots)⟩ al ((0:Nat):Int)=w0 at*
 generalize TZ.uk ⟨s0.mem,sz0,tr.old,g,(· ∈roots)⟩ al ((1:Nat):Int)=w1 at*
 generalize TZ.uk ⟨s0.mem,sz0,tr.old,g,(· ∈roots)⟩ al ((2:Nat):Int)=w2 at*
 generalize TZ.uk ⟨s0.mem,sz0,tr.old,g,(· ∈roots)⟩ al ((3:Nat):Int)=w3 at*
 generalize (al.map sz0).sum=wa at*
 omega

set_option maxRecDepth 100000 in
theorem law(limit:Int)(s:Sl RoundOf)(H:Array Obj)(hl:I64 limit)(A:SlOK 6 roundOfR maxLen H s):
  morainelaw13_GcTight.C limit s.p s.n s.c H (λv H'=>v=.bool true/\Ext H H'):=by
 refine HC.via λR hR=>morainelaw13_GcTight.link ?_
 unfold morainelaw13_GcTight.pt
 have awake: ∀{A:Array Obj},Ext H A->morainelaw13_awake.C A (λv A'=> ∃x:Bool,v=.bool x/\R (.bool x) A'):=λ{A} e=>HC.mono awake13_c (by
  rintro _ A' ⟨rfl,e'⟩
  exact⟨_,rfl,hR _ _ ⟨rfl,e.trans e'⟩⟩)
 refine HC.mono (begun13_c hl A) ?_
 rintro _ H1 ⟨e1,(rfl | ⟨b,x,sz,mB,mC,made,rfl,hn12,G⟩)⟩
 ·refine⟨_,_,_,_,rfl,?_⟩
  rw[onPtr_none]
  exact awake e1
 refine⟨_,_,_,_,rfl,?_⟩
 rw[onPtr_some]
 by_cases h0:(s.n:Int)=0
 ·rw[if_pos h0];exact awake e1
 rw[if_neg h0]
 have hlen:=A.len
 rw[w64 (n:=(s.n:Int)-1) (by omega)]
 have hiN:((s.n:Int)-1).toNat<s.xs.length:=by omega
 obtain⟨la,hla,hrow⟩:=A.row _ hiN
 have hrk:RoundOf.OK maxLen H s.xs[((s.n:Int)-1).toNat]:=A.each _ (List.getElem_mem hiN)
 generalize s.xs[((s.n:Int)-1).toNat]=r at*
 refine⟨la,hla,⟨by omega,by omega⟩,_,_,_,_,_,_,_,_,_,_,_,_,G.st.e.rowAt hrow,λc H4 hc4 hH4=>?_⟩
 obtain⟨hcp,hs⟩:=box_new (n:=6) (vs:=r.cells) hc4 hH4 rfl rfl
 refine⟨hcp,λH5 hH5=>?_⟩
 obtain⟨g5,e5⟩:=hs H5 hH5
 refine⟨_,_,_,_,_,_,_,_,_,_,_,_,box_row g5,?_⟩
 have S5:=G.st.ext e5
 have hml:=G.len
 refine HC.mono (roots13_c r S5 (by omega)) ?_
 rintro _ H6 ⟨rB,rC,roots,rfl,e6,hro,hrb,hrin,hrl⟩
 have g6:=e6.get g5
 have hg6:hat H6 ((Addr.mk c 0 none).add 3)=some (.int .i64 r.g):=by rw[box_get g6 3];rfl
 refine⟨_,_,_,rfl,_,hg6,_,hg6,?_⟩
 refine HC.mono (pointers_c hro.some (by omega)) ?_
 rintro _ H7 ⟨pB,pC,rfl,hpt,hpb,e7⟩
 refine⟨_,_,_,rfl,row1 (e7.hat hg6),row1 (e7.hat hg6),?_⟩
 have S7:=S5.ext (e6.trans e7)
 have z5:=S5.e.size
 have z6:=e6.size
 have z7:=e7.size
 have hrbn: ∀j∈blks rB,H.size<=j/\j ∉ b.all:=λj hj=>⟨by have:=hrb j hj;omega,λq=>by have:=S5.blt j q;have:=hrb j hj;omega⟩
 have hcfx:=G.cf
 refine HC.mono (S7.collect G.bare (by omega) (wf_i64 hrk.g) (wf_i64 hrk.g) (hro.ext e7) (λj hj=>⟨(hrbn j hj).2,by have:=hro.lt j hj;omega⟩) hpt rfl (λj hj=>⟨(hpb j hj).2,λq=>by have:=S5.blt j q;have:=hpb j hj;omega,λq=>by have:=hro.lt j q;have:=hpb j hj;omega⟩) hrin (by omega)) ?_
 rintro v H8 ⟨hno,hyes⟩
 by_cases hst:startE x.sp r.g r.g 1=0
 case neg=>
  obtain⟨rfl,e8⟩:=hno hst
  refine⟨_,rfl,?_⟩
  rw[if_neg hst]
  exact awake (S7.e.trans e8)
 have hr:=(startE_rng (by decide) hst).1
 obtain⟨rfl,young,fw,al,sz2,tr,s3,s4,s5,W⟩:=hyes hst
 refine⟨_,rfl,?_⟩
 rw[if_pos rfl]
 have z4:=G.st.e.size
 have hcn:c ∉ b.all++blks rB:=λq=>by
  rcases List.mem_append.1 q with q | q
  ·have:=G.st.blt c q;omega
  ·have:=hrb c q;have:=lt_size g5;omega
 have g8:=W.fr.get hcn (e7.get g6)
 obtain⟨S8,hyl⟩:=S7.collected W hrbn
 have ht:=tight W.col
 obtain⟨X,hX⟩: ∃X:Hp,X={x with sp:=s5,ep:=IntKind.wrap .u64 (x.ep+1)}:=⟨_,rfl⟩
 have hpX:=W.hp
 rw[<-hX]at hpX
 have hsX:X.sp=s5:=by rw[hX]
 have okX:SpOK X.sp:=by rw[hsX];exact W.col.inv.ok
 rw[<-hsX]at ht
 have hab:=above_le X.sp.mem
 have habn:=above_neg okX.mem
 refine⟨λnv used g A=>(0<=g/\g<=r.g+1)/\Ext H8 A/\nv=tk X.sp.mem (g-1)/\used+X.sp.mem.above (g-1)=X.sp.mem.above (-1),λ_ _ g _=>(r.g+1-g).toNat,⟨⟨by omega,by omega⟩,Ext.refl _,by rw[show(0:Int)-1= -1 by omega,tk_neg okX.mem];rfl,by rw[show(0:Int)-1= -1 by omega];omega⟩,?_⟩
 rintro nv used g A ⟨hg,eA,rfl,hu⟩
 refine⟨r.g,by rw[box_get (eA.get g8) 3];rfl,?_⟩
 have htk:=tk_le okX.mem
 by_cases hlt:g<=r.g
 case neg=>
  rw[if_neg hlt]
  obtain rfl:g=r.g+1:=by omega
  rw[show r.g+1-1=r.g by omega]at hu⊢
  have t1:=htk r.g
  have a1:=hab r.g
  have a2:=hab (-1)
  rw[w64 (n:=64*(tk X.sp.mem r.g:Int)) (by omega),w64 (n:=2*used) (by omega),w64 (n:=2*used+256) (by omega),if_pos (by omega)]
  exact awake (S8.e.trans eA)
 rw[if_pos hlt]
 have hpA:=hpX.ext eA
 refine⟨_,hpA.hPtr,_,rfl,_,hpA.cd.cPtr,_,rfl,_,hpA.cd.sp.memPtr,λb2 H10 hb2 hH10=>?_⟩
 have e10:Ext A H10:=Ext.push' hH10
 have hp10:=hpA.ext e10
 refine HC.mono (seg_Taken_c (gs:=[g]) hp10.cd.sp.mem okX.mem (show SrcAt H10 (some ⟨b2,0,none⟩) (ivs [g])from⟨by rw[addr_add_mk,hat_blk (push_get hb2 hH10)];rfl,trivial⟩) rfl (by decide)) ?_
 rintro _ H11 ⟨tB,tC,l,rfl,hl2,_,_,e11⟩
 refine⟨_,_,_,rfl,?_⟩
 have hp11:=hp10.ext e11
 refine⟨_,hp11.hPtr,_,rfl,_,hp11.cd.cPtr,λb3 H12 hb3 hH12=>?_⟩
 have e12:Ext H11 H12:=Ext.push' hH12
 have hp12:=hp11.ext e12
 refine HC.mono (space_Words_c (gs:=[g]) hp12.cd.sp okX (show SrcAt H12 (some ⟨b3,0,none⟩) (ivs [g])from⟨by rw[addr_add_mk,hat_blk (push_get hb3 hH12)];rfl,trivial⟩) rfl (by decide)) ?_
 rintro _ H13 ⟨rfl,e13⟩
 refine⟨_,rfl,?_⟩
 have hd:(r.g+1-(g+1)).toNat< (r.g+1-g).toNat:=by omega
 have t1:=htk g
 have t2:=htk (g-1)
 have t3:=tk_step X.sp.mem g hl2
 have a1:=hab g
 have a2:=hab (g-1)
 have a3:=hab (-1)
 have a4:=Mem.above_step okX.mem g
 rw[w64 (n:=(tk X.sp.mem (g-1):Int)+(l.length:Nat)) (by omega),w64 (n:=used+X.sp.mem.words [g]) (by omega),w64 (n:=g+1) (by omega)]
 exact⟨⟨⟨by omega,by omega⟩,(((eA.trans e10).trans e11).trans e12).trans e13,by rw[show g+1-1=g by omega];omega,by rw[show g+1-1=g by omega];omega⟩,hd⟩

set_option maxRecDepth 100000 in
theorem lifted(os:Os)(started:os.Started)(H:Type)(enc:TypeId×Value->H):
  ReturnsInHanded {} Tryz.checked os 6 .any (Rows.gcTightSpec.pre6 enc Tryz.prog Tryz.f6 Rows.gcTightRow.domain false) (Rows.gcTightSpec.post enc Tryz.prog Tryz.f6 false true false false):=by
 refine law_lifted (tb:=4) started (by kernel_rfl) Tryz.func6
  (ChangeSpec.witness6 (enc:=enc) (C:=Tryz.checked) false ⟨#[],#[.int .i64 0,.slice none 0 0],[]⟩ 8 (by kernel_rfl) (by kernel_rfl) (by kernel_rfl) (by kernel_rfl))
  rfl (by kernel_rfl) rfl Tryz.underlying4 (λds hds=>?_) ?_
 ·match ds,hds with
  | [d0,d1],_=>rfl
 intro W base args ds p hval hA _
 rw[Tryz.params6]at hA hval
 obtain⟨v0,vs0,d0,ds0,p0,q0,hargs,rfl,rfl,h0,r0⟩:=trodAll_cons hA
 obtain⟨v1,vs1,d1,ds1,p1,q1,rfl,rfl,rfl,h1,r1⟩:=trodAll_cons r0
 obtain⟨rfl,rfl,rfl⟩:=trodAll_nil r1
 obtain rfl:args= #[v0,v1]:=by cases args;simp_all
 obtain⟨a0,rfl,rfl,rfl,w0⟩:=open_int Tryz.underlying3 (hval 0 3 v0 rfl rfl) h0
 obtain⟨s1,rfl,w1⟩:=open_read Tryz.underlying47 (by kernel_rfl) reads_RoundOf (B:=maxLen) (.inl rfl) (hval 1 47 v1 rfl rfl) h1
 exact law a0 s1 W.heap (wf_i64 w0) w1

theorem over:Rows.gcTightRow.holds Tryz.pinned (OpenSpec.ofChange Rows.gcTightSpec):=
 OpenClaim.holds_of_wide 6 Tryz.f6 rfl rfl rfl rfl rfl rfl rfl ⟨rfl,rfl,rfl,rfl,rfl⟩ rfl rfl rfl rfl rfl (by kernel_rfl) Tryz.func6 (by kernel_rfl)
  (of_decide_eq_true (by kernel_rfl)) (by unfold Func.isWrapper;first | (rw[if_pos (by decide+kernel)];kernel_rfl) | (rw[if_neg (by decide+kernel)];exact⟨rfl,rfl⟩))
  (λos started H enc _=>lifted os started H enc)

theorem proved:Rows.GcTightSaid:=
 over
#print axioms proved
end Go.Proofs.YtgnokbjknicahaaGreat.gcTight
