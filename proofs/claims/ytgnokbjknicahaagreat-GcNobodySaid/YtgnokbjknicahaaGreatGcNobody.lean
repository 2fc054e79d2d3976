/- The law GcNobody of morainelaw13 holds: called with any arguments it answers true and leaves what it was handed as it was. No condition. -/
import Derived.Test.YtgnokbjknicahaaGreatAwake13
import Derived.Test.YtgnokbjknicahaaGreatLx
import Derived.Test.YtgnokbjknicahaaGreatRead
set_option linter.unusedVariables false
set_option linter.unusedSimpArgs false
namespace Go.Proofs.YtgnokbjknicahaaGreat.gcNobody
open Go Go.Proofs.YtgnokbjknicahaaGreat
open Go.ChangeShapes Go.WideShapes Go.ChangeAt Go.RowKit

theorem one_pair{s:Sp}(ok:SpOK s)(hn: ∀x,¬s.mem.used x){x y:Int}(hx:IsWord x)(hy:IsWord y)(h:(s.put 0 1 [x,y]).2.2=0)(ok':SpOK (s.put 0 1 [x,y]).1):(s.put 0 1 [x,y]).1.mem.words []=2:=by
 by_cases hf:(s.alloc 0 0 (([x,y]:List Int).length:Nat)).2.2=0
 case neg=>
  have e:s.put 0 1 [x,y]=(s,0,(s.alloc 0 0 (([x,y]:List Int).length:Nat)).2.2):=by unfold Sp.put;rw[if_neg hf]
  rw[e]at h;exact absurd h hf
 obtain⟨a,e1,gr,e2,ok2,a64,_⟩:=Sp.put_ok (tag:=1) ok (alloc_may' hf) (.inl rfl) (λw hw=>by simp at hw;rcases hw with rfl | rfl<;>assumption) hf
 have sm:=Same'.sets [x,y] (s.alloc 0 0 (([x,y]:List Int).length:Nat)).1.mem a
 have hlen:((([x,y]:List Int).length:Nat):Int)=2:=rfl
 have hu: ∀z,(s.put 0 1 [x,y]).1.mem.used z ↔ a<=z/\z<a+2:=λz=>by
  rw[e2,sm.used,gr.usedIff (by omega),hlen]
  exact⟨λq=>q.resolve_left (hn z),.inr⟩
 obtain⟨a0,a1,a2⟩:=gr.addr
 have hl:=ok.mem.lim
 rw[Mem.words_cnt ok'.mem]
 have:(s.put 0 1 [x,y]).1.mem.cnt (λz=>decide (([]:List Int)=[]\/(s.put 0 1 [x,y]).1.mem.gAt z∈([]:List Int)))=2:=by
  unfold Mem.cnt
  rw[<-countP_inR a0 tops 2 (by rw[tops_eq];omega)]
  refine List.countP_congr λz _=>?_
  simp only[Bool.and_eq_true,decide_eq_true_eq,true_or,and_true]
  unfold inR
  rw[decide_eq_true_eq,hu]
  exact Iff.rfl
 rw[this];rfl
theorem one_collected{s s3 s4 s5:Sp}{sz sz':Int->Nat}{g T p:Int}{tr:Tr}{young:List Int}{fw:Int->Option Int}{al:List Int}(hP:Plain0 s.mem)(hp:Pr s.mem p 1 8 16)(C:Colled s sz g T tr [p] young fw al sz' s3 s4 s5):
  ∃r,young=[r]/\IsWord r/\s5.mem.genOf r=(T,true)/\s5.mem.words []=2:=by
 have t:=C.t
 have S:=t.S
 have hrng:=S.rng
 obtain⟨-,gp⟩:=S.V p (by show p∈[p];simp)
 have hu:=hp.at'.used hp.word
 have hold: ∀x,s.mem.used x->tr.old (x / 64).toNat=true/\s.mem.kAt x=0:=λx hx=>by
  have hlt:=S.lt hx
  obtain⟨g1,g2⟩:=hP _ hx.2.1.2.2
  refine⟨(S.old _ hlt.1).2 ⟨?_,?_⟩,g2⟩
  ·have:=hx.1
   show s.mem.has _
   rw[show(((x / 64).toNat:Nat):Int)=x / 64 by omega];exact hx.2.1
  ·show(s.mem.seg (x / 64).toNat).gen<=g
   omega
 have o:isOldW tr.old p:=⟨hp.at'.1,by have:=hp.at'.2.1;omega,(hold _ hu).1⟩
 have zp:sz (p / 8)=2:=(S.sound.two _ (gp.2 (old_tag o)).1 (by show s.mem.kAt (p / 8)<=1;rw[(hold _ hu).2];decide)).1
 have hsum:=C.alls (L:=[p / 8]) (by simp) (λx hx=>(hold x hx).1) (λv hv _=>by simp at hv;rw[hv];simp) (λy hy i hi _ ho=>by
  simp at hy
  rw[hy,zp]at hi
  rw[hy]at ho
  match i,hi with
  | 0,_=>rw[show p / 8+((0:Nat):Int)=p / 8 by omega,hp.car]at ho;have:=ho.1.1;omega
  | 1,_=>rw[show p / 8+((1:Nat):Int)=p / 8+1 by omega,hp.cdr]at ho;have:=ho.1.1;omega) (λy hy=>by simp at hy;rw[hy];exact .root (by show p∈[p];simp) o)
 obtain⟨w,_,_⟩:=C.plain hP hrng.1
 obtain⟨g1,g2,g3⟩:=t.good hp.word gp (t.roots p (by show p∈[p];simp))
 obtain⟨u1,u2,u3,u4⟩:=g2 (old_tag o)
 obtain⟨b,hb⟩:=t.roots p (by show p∈[p];simp) o
 have hw:=t.tri.fw_word S hp.word
 have im:=(t.tri.img _ _ hb).2
 have hgen:s5.mem.gAt (Fw tr.old fw p / 8)=T:=by
  rw[(t.kind u1).2,Fw_some o hb,show(b*8+p % 8) / 8=b by omega];exact im.gen
 refine⟨Fw tr.old fw p,C.yg,hw,?_,?_⟩
 ·have hl:=C.inv.ok.mem.lim
  have h1:=u1.2.1.2.1
  have h0:=u1.1
  have hp1:=hp.at'.2.1
  rw[genOf_old ⟨by omega,by omega⟩ (by omega) u1.2.1,hgen]
 ·rw[w,hsum];simp[zp]

set_option maxRecDepth 100000 in
theorem law(g target:Int)(hg:I64 g)(hT:I64 target)(H:Array Obj):morainelaw13_GcNobody.C g target H (λv H'=>v=.bool true/\Ext H H'):=by
 refine HC.via λR hR=>morainelaw13_GcNobody.link ?_
 unfold morainelaw13_GcNobody.pt
 intro c H1 hc hH1
 obtain⟨hcp,hs⟩:=box_new (n:=1) (vs:=[.int .u64 9]) hc hH1 rfl rfl
 refine⟨hcp,λH2 hH2=>?_⟩
 obtain⟨g2,e2⟩:=hs H2 hH2
 have need0: ∀{A:Array Obj},gc_Need.C none g A (λv A'=>v=.int .i64 0/\A'=A):=λ{A}=>by
  refine HC.via λR hR=>gc_Need.link ?_
  unfold gc_Need.pt
  rw[onPtr_none];exact hR _ _ ⟨rfl,rfl⟩
 have need1: ∀{A:Array Obj} {c:Nat},A[c]?=some (.cells #[.pointer none,.slice none 0 0,.slice none 0 0,.int .u64 0] 30 (0,0))->gc_Need.C (some ⟨c,0,none⟩) g A (λv A'=>v=.int .i64 0/\A'=A):=λ{A c} h=>by
  refine HC.via λR hR=>gc_Need.link ?_
  unfold gc_Need.pt
  rw[onPtr_some]
  refine⟨_,hat_blk h,?_⟩
  rw[onPtr_none];exact hR _ _ ⟨rfl,rfl⟩
 have col0: ∀{A:Array Obj} {p:Option Addr} {n c:Nat},gc_Collect.C none 0 0 p n c A (λv A'=>v=.int .i64 1/\A'=A):=λ{A p n c}=>by
  refine HC.via λR hR=>gc_Collect.link ?_
  unfold gc_Collect.pt
  rw[onPtr_none];exact hR _ _ ⟨rfl,rfl⟩
 have col1: ∀{A:Array Obj} {p:Option Addr} {n c k:Nat},A[k]?=some (.cells #[.pointer none,.slice none 0 0,.slice none 0 0,.int .u64 0] 30 (0,0))->gc_Collect.C (some ⟨k,0,none⟩) 0 0 p n c A (λv A'=>v=.int .i64 1/\A'=A):=λ{A p n c k} h=>by
  refine HC.via λR hR=>gc_Collect.link ?_
  unfold gc_Collect.pt
  rw[onPtr_some]
  have hmore:gc_more.C (some ⟨k,0,none⟩) A (λv H'=>v=.int .i64 1/\H'=A):=by
   refine HC.via λR hR=>gc_more.link ?_
   unfold gc_more.pt
   exact⟨_,rfl,none,0,0,by rw[box_get h 2];rfl,hR _ _ ⟨rfl,rfl⟩⟩
  refine HC.mono hmore ?_
  rintro _ A1 ⟨rfl,rfl⟩
  refine⟨_,rfl,?_⟩
  have hst:trace_Start.C (some ⟨k,0,none⟩) 0 0 1 A1 (λv H'=>v=.tuple #[.pointer none,.int .i64 1]/\H'=A1):=by
   refine HC.via λR hR=>trace_Start.link ?_
   unfold trace_Start.pt
   rw[onPtr_some]
   refine⟨_,hat_blk h,?_⟩
   rw[onPtr_none];exact hR _ _ ⟨rfl,rfl⟩
  refine HC.mono hst ?_
  rintro _ _ ⟨rfl,rfl⟩
  refine⟨_,_,rfl,?_⟩
  rw[if_neg (by decide)];exact hR _ _ ⟨rfl,rfl⟩
 refine HC.mono need0 ?_
 rintro _ H3 ⟨rfl,rfl⟩
 refine⟨_,rfl,?_⟩
 rw[if_pos rfl]
 intro c4 H4 hc4 hH4
 have e4:Ext H3 H4:=Ext.push' hH4
 refine HC.mono (need1 (push_get hc4 hH4)) ?_
 rintro _ H5 ⟨rfl,rfl⟩
 refine⟨_,rfl,?_⟩
 rw[if_pos rfl]
 intro c6 H6 hc6 hH6
 have e6:Ext H5 H6:=Ext.push' hH6
 refine HC.mono col0 ?_
 rintro _ H7 ⟨rfl,rfl⟩
 refine⟨_,rfl,?_⟩
 rw[if_pos rfl]
 intro c8 H8 hc8 hH8 c9 H9 hc9 hH9
 have e8:Ext H7 H8:=Ext.push' hH8
 have e9:Ext H8 H9:=Ext.push' hH9
 refine HC.mono (col1 (e9.get (push_get hc8 hH8))) ?_
 rintro _ H10 ⟨rfl,rfl⟩
 refine⟨_,rfl,?_⟩
 have e210:=((e4.trans e6).trans e8).trans e9
 have e010:Ext H H10:=e2.trans e210
 rw[if_pos rfl]
 refine⟨9,hat_blk (e210.get g2),?_⟩
 rw[if_pos rfl]
 refine HC.mono (obj_New_c (limit:=40) (by decide)) ?_
 rintro _ H11 (⟨hno,rfl,e11⟩ | ⟨-,b,x0,rfl,V1,hx,e11,hb1⟩)
 ·exact absurd (by decide) hno
 refine⟨_,_,rfl,?_⟩
 rw[if_pos rfl]
 obtain⟨-,hp1,ok1⟩:=V1.inv
 obtain⟨I0,P0,F0,C0,L0,B0,K0,E0⟩:=fresh_inv ok1 hx
 have g16:Good x0.sp.mem (λ_=>0) 16:=⟨by decide,λh=>absurd h (by decide)⟩
 have F0':x0.sp.mem.free=40:=F0
 obtain⟨sz1,k1,I1,l1,p1,m1,P1,gp1,c1⟩:=cons_step I0 P0 (by omega) (x:=8) (y:=16) (by decide) (by decide) (good8 _ _) g16
 have hnu: ∀z,¬x0.sp.mem.used z:=λz hz=>by rw[hx]at hz;exact hz.2.1.2.2 rfl
 have hw2:=one_pair ok1 hnu (x:=8) (y:=16) (by decide) (by decide) k1 I1.ok
 have hcnt:cntOK (some (b,x0)):=Sp.cf_count ok1 (by omega)
 refine HC.mono (obj_Cons_c V1 (by decide) (by decide) hcnt) ?_
 rintro _ H12 ⟨rfl,V2,f2⟩
 refine⟨_,_,rfl,?_⟩
 have hpR:putR (some (b,x0)) 0 1 [8,16]=(x0.sp.put 0 1 [8,16]).2:=rfl
 have hpO:putO (some (b,x0)) 0 1 [8,16]=some (b,{x0 with sp:=(x0.sp.put 0 1 [8,16]).1}):=rfl
 rw[hpO]at V2
 rw[hpR]
 have m1f:=m1.free
 have m1l:=m1.keep.limit
 generalize (x0.sp.put 0 1 [8,16]).2.1=p at*
 generalize hs1:(x0.sp.put 0 1 [8,16]).1=s1 at*
 obtain⟨x,hxx⟩: ∃x:Hp,x={x0 with sp:=s1}:=⟨_,rfl⟩
 rw[<-hxx]at V2
 have hsx:x.sp=s1:=by rw[hxx]
 have hbx:Bare x:=by rw[hxx];exact B0
 have hex:x.ep=0:=by rw[hxx];exact E0
 rw[<-hsx]at I1 p1 P1 gp1 c1 hw2 m1f m1l
 have hyf:=young_free I1.ok.mem g
 intro c13 H13 hc13 hH13
 obtain⟨hcp13,hs13⟩:=box_new (n:=1) (vs:=[.int .u64 p]) hc13 hH13 rfl rfl
 refine⟨hcp13,λH14 hH14=>?_⟩
 obtain⟨g14,e14⟩:=hs13 H14 hH14
 intro c15 H15 hc15 hH15
 have e15:Ext H14 H15:=Ext.push' hH15
 have g15:=push_get hc15 hH15
 have V15:=(V2.ext e14).ext e15
 obtain⟨-,hp12,-⟩:=V2.inv
 obtain⟨-,hp15,-⟩:=V15.inv
 have hlt12:=hp12.lt
 have z14:=e14.size
 have z15:=e15.size
 have hc13lt:=lt_size g14
 have hown:Own H15 24 1 (some ⟨c13,0,none⟩) ([p]:List Int).length 1 (wvs [p]):=⟨rfl,_,e15.get g14,rfl,Nat.le_refl _,rfl,λj hj=>by
  obtain rfl:j=0:=Nat.lt_one_iff.1 hj
  rfl⟩
 have hc13b:c13 ∉ b.all:=λq=>by have:=hlt12 c13 q;omega
 have hspb: ∀j∈own (some (b,x0)),j∈b.all:=λj hj=>by simp[own]at hj;simp[Blk.all];omega
 have E15:Ext H H15:=((((e010.trans e11).fr_trans f2 (λj hj=>by have:=hb1 j (hspb j hj);have:=e010.size;omega)).trans e14).trans e15)
 have z010:=e010.size
 have z11:=e11.size
 have z12:=f2.size
 refine HC.mono (gc_Collect_c (k:=0) (rB:=some ⟨c13,0,none⟩) (roots:=[p]) hp15 I1 (by omega) hbx.1 hbx.2 hg hT hown (λj hj=>by simp at hj;rw[hj];exact hc13b)
  (show SrcAt H15 (some ⟨c15,0,none⟩) (ptrs 0 ⟨c13,0,none⟩ 1)from rowAt_blk g15 _ 0 0 (λj hj=>by
   have hj':j<1:=hj
   obtain rfl:j=0:=by omega
   rfl)) rfl (λj hj=>by
   simp at hj
   rw[hj]
   exact⟨λq=>by have:=hlt12 c15 q;omega,λq=>by simp at q;omega,lt_size g15⟩) (λw hw=>by simp at hw;rw[hw];exact⟨p1.word,gp1⟩) (by decide)) ?_
 rintro v16 H16 ⟨hno,hyes⟩
 by_cases hst:startE x.sp g target 1=0
 ·have hr:=(startE_rng (by decide) hst).1
  obtain⟨rfl,young,fw,al,sz',tr,s3,s4,s5,W⟩:=hyes hst
  obtain⟨r,rfl,wr,hgen,hw⟩:=one_collected P1 p1 W.col
  refine⟨_,rfl,?_⟩
  rw[if_neg (by
   simp only[Bool.or_eq_true,Bool.and_eq_true,decide_eq_true_eq,bne_iff_ne,ne_eq]
   rw[w64 (n:=target-1) (by omega)]
   omega)]
  have hpX:=W.hp
  obtain⟨X,hX⟩: ∃X:Hp,X={x with sp:=s5,ep:=IntKind.wrap .u64 (x.ep+1)}:=⟨_,rfl⟩
  rw[<-hX]at hpX
  have hsX:X.sp=s5:=by rw[hX]
  have okX:SpOK X.sp:=by rw[hsX];exact W.col.inv.ok
  have heX:X.ep=1:=by rw[hX];show IntKind.wrap .u64 (x.ep+1)=1;rw[hex];rfl
  rw[<-hsX]at hgen hw
  have h2:=rowAt_hat (show RowAt H16 ⟨c13,0,none⟩ 0 (wvs [r])from W.own.src) 0 (.int .u64 r) rfl
  rw[addr_add_mk]at h2
  refine⟨_,rfl,_,hpX.hPtr,r,h2,?_⟩
  refine HC.mono (card_Gen_c hpX.cd wr) ?_
  rintro _ H21 ⟨rfl,e21⟩
  refine⟨target,true,by rw[hgen],?_⟩
  rw[if_pos rfl,if_pos rfl,if_pos rfl]
  have hp21:=hpX.ext e21
  refine⟨_,hp21.hPtr,_,rfl,_,hp21.cd.cPtr,?_⟩
  refine HC.mono (space_Words_c (gs:=[]) hp21.cd.sp okX (by rw[SrcAt_none];rfl) rfl (by decide)) ?_
  rintro _ H22 ⟨rfl,e22⟩
  refine⟨_,rfl,?_⟩
  rw[if_pos hw]
  have hp22:=hp21.ext e22
  refine HC.mono (obj_Epoch_c (.real hp22 okX)) ?_
  rintro _ H23 ⟨rfl,rfl⟩
  refine⟨_,rfl,?_⟩
  rw[if_pos (show epO (some (b,X))=1 from heX)]
  refine HC.mono awake13_c ?_
  rintro _ H24 ⟨rfl,e24⟩
  refine⟨_,rfl,hR _ _ ⟨rfl,?_⟩⟩
  have E16:Ext H H16:=E15.fr_trans W.fr (λj hj=>by
   rcases List.mem_append.1 hj with q | q
   ·have:=hb1 j q;omega
   ·simp at q;omega)
  exact((E16.trans e21).trans e22).trans e24
 ·obtain⟨rfl,e16⟩:=hno hst
  refine⟨_,rfl,?_⟩
  have hbad:g<0\/4<=g\/target<g\/g+1<target:=by
   unfold startE at hst
   by_cases h1:g<0\/4<=g\/target<g\/g+1<target\/(1:Int)<0
   ·omega
   ·rw[if_neg h1,if_neg (by omega)]at hst;exact absurd rfl hst
  have he1:startE x.sp g target 1=1:=by
   unfold startE
   rw[if_pos (by omega)]
  rw[if_pos (by
   simp only[Bool.or_eq_true,Bool.and_eq_true,decide_eq_true_eq,bne_iff_ne,ne_eq]
   by_cases ht:target<0
   ·omega
   ·have:=hT.2
    rw[w64 (n:=target-1) (by unfold I64 at hT;omega)]
    omega)]
  refine⟨λbv A=>bv=true/\Ext H A,?_,?_⟩
  ·rw[if_pos he1]
   refine⟨p,hat_blk (e16.get (e15.get g14)),?_⟩
   rw[if_pos rfl]
   have hp16:=hp15.ext e16
   refine⟨_,rfl,_,hp16.hPtr,_,rfl,_,hp16.cd.cPtr,?_⟩
   refine HC.mono (space_Words_c (gs:=[]) hp16.cd.sp I1.ok (by rw[SrcAt_none];rfl) rfl (by decide)) ?_
   rintro _ H18 ⟨rfl,e18⟩
   refine⟨_,rfl,?_⟩
   rw[if_pos hw2]
   refine HC.mono (obj_Epoch_c (.real (hp16.ext e18) I1.ok)) ?_
   rintro _ H19 ⟨rfl,rfl⟩
   refine⟨_,rfl,?_⟩
   rw[if_pos (show epO (some (b,x))=0 from hex)]
   refine HC.mono awake13_c ?_
   rintro _ H20 ⟨rfl,e20⟩
   exact⟨_,rfl,rfl,((E15.trans e16).trans e18).trans e20⟩
  ·rintro bv A ⟨rfl,e⟩
   exact hR _ _ ⟨rfl,e⟩

set_option maxRecDepth 100000 in
theorem lifted(os:Os)(started:os.Started)(H:Type)(enc:TypeId×Value->H):
  ReturnsInHanded {} Tryz.checked os 3 .any (Rows.gcNobodySpec.pre6 enc Tryz.prog Tryz.f3 Rows.gcNobodyRow.domain false) (Rows.gcNobodySpec.post enc Tryz.prog Tryz.f3 false true false false):=by
 refine law_lifted (tb:=4) started (by kernel_rfl) Tryz.func3
  (ChangeSpec.witness6 (enc:=enc) (C:=Tryz.checked) false ⟨#[],#[.int .i64 0,.int .i64 0],[]⟩ 8 (by kernel_rfl) (by kernel_rfl) (by kernel_rfl) (by kernel_rfl))
  rfl (by kernel_rfl) rfl Tryz.underlying4 (λds hds=>?_) ?_
 ·match ds,hds with
  | [d0,d1],_=>rfl
 intro W base args ds p hval hA _
 rw[Tryz.params3]at hA hval
 obtain⟨v0,vs0,d0,ds0,p0,q0,hargs,rfl,rfl,h0,r0⟩:=trodAll_cons hA
 obtain⟨v1,vs1,d1,ds1,p1,q1,rfl,rfl,rfl,h1,r1⟩:=trodAll_cons r0
 obtain⟨rfl,rfl,rfl⟩:=trodAll_nil r1
 obtain rfl:args= #[v0,v1]:=by cases args;simp_all
 obtain⟨a0,rfl,rfl,rfl,w0⟩:=open_int Tryz.underlying3 (hval 0 3 v0 rfl rfl) h0
 obtain⟨a1,rfl,rfl,rfl,w1⟩:=open_int Tryz.underlying3 (hval 1 3 v1 rfl rfl) h1
 exact law a0 a1 (wf_i64 w0) (wf_i64 w1) W.heap

theorem over:Rows.gcNobodyRow.holds Tryz.pinned (OpenSpec.ofChange Rows.gcNobodySpec):=
 OpenClaim.holds_of_wide 3 Tryz.f3 rfl rfl rfl rfl rfl rfl rfl ⟨rfl,rfl,rfl,rfl,rfl⟩ rfl rfl rfl rfl rfl (by kernel_rfl) Tryz.func3 (by kernel_rfl)
  (of_decide_eq_true (by kernel_rfl)) (by unfold Func.isWrapper;first | (rw[if_pos (by decide+kernel)];kernel_rfl) | (rw[if_neg (by decide+kernel)];exact⟨rfl,rfl⟩))
  (λos started H enc _=>lifted os started H enc)

theorem proved:Rows.GcNobodySaid:=
 over
#print axioms proved
end Go.Proofs.YtgnokbjknicahaaGreat.gcNobody
