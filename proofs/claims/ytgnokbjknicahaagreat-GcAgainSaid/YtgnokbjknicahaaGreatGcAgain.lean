/- The law GcAgain of morainelaw13 holds: called with any arguments it answers true and leaves what it was handed as it was. No condition. -/
import Derived.Test.YtgnokbjknicahaaGreatAwake13
import Derived.Test.YtgnokbjknicahaaGreatHkI
set_option linter.unusedVariables false
set_option linter.unusedSimpArgs false
namespace Go.Proofs.YtgnokbjknicahaaGreat.gcAgain
open Go Go.Proofs.YtgnokbjknicahaaGreat
open Go.ChangeShapes Go.WideShapes Go.ChangeAt Go.RowKit

set_option maxRecDepth 100000 in
theorem law(limit:Int)(s:Sl RoundOf)(H:zV)(hl:I64 limit)(A:SlOK 6 roundOfR maxLen H s):
  morainelaw13_GcAgain.C limit s.p s.n s.c H (λv H'=>v=.bool true/\Ext H H'):=by
 refine HC.via λR hR=>morainelaw13_GcAgain.link ?_
 unfold morainelaw13_GcAgain.pt zY
 have awake: ∀{A:zV},Ext H A->morainelaw13_awake.C A (λv A'=> ∃x:Bool,v=.bool x/\R (.bool x) A'):=λ{A} e=>HC.mono awake13_c (by
  rintro _ A' ⟨rfl,e'⟩
  exact⟨_,rfl,hR _ _ ⟨rfl,e.trans e'⟩⟩)
 refine HC.mono (begun13_c hl A) ?_
 rintro _ H1 ⟨e1,(rfl | ⟨b,x,sz,mB,mC,made,rfl,hn12,G⟩)⟩
 ·refine⟨_,_,_,_,rfl,?_⟩
  rw[onPtr_none]
  exact awake e1
 refine⟨_,_,_,_,rfl,?_⟩
 rw[onPtr_some]
 by_cases h0:(s.n:Int)=0
 ·rw[if_pos h0];exact awake e1
 rw[if_neg h0]
 have hlen:=A.len
 rw[w64 (n:=(s.n:Int)-1) (by omega)]
 have hiN:((s.n:Int)-1).toNat<s.xs.length:=by omega
 obtain⟨la,hla,hrow⟩:=A.row _ hiN
 have hrk:RoundOf.OK maxLen H s.xs[((s.n:Int)-1).toNat]:=A.each _ (List.getElem_mem hiN)
 generalize s.xs[((s.n:Int)-1).toNat]=r at*
 refine⟨la,hla,⟨by omega,by omega⟩,_,_,_,_,_,_,_,_,_,_,_,_,G.st.e.rowAt hrow,λc H4 hc4 hH4=>?_⟩
 obtain⟨hcp,hs⟩:=box_new (n:=6) (vs:=r.cells) hc4 hH4 rfl rfl
 refine⟨hcp,λH5 hH5=>?_⟩
 obtain⟨g5,e5⟩:=hs H5 hH5
 refine⟨_,_,_,_,_,_,_,_,_,_,_,_,box_row g5,?_⟩
 have S5:=G.st.ext e5
 have hml:=G.len
 refine HC.mono (roots13_c r S5 (by omega)) ?_
 rintro _ H6 ⟨rB,rC,roots,rfl,e6,hro,hrb,hrin,hrl⟩
 have g6:=e6.get g5
 have hg6:hat H6 ((Addr.mk c 0 none).add 3)=some (.int .i64 r.g):=by rw[box_get g6 3];rfl
 refine⟨_,_,_,rfl,_,hg6,_,hg6,?_⟩
 refine HC.mono (pointers_c hro.some (by omega)) ?_
 rintro _ H7 ⟨pB,pC,rfl,hpt,hpb,e7⟩
 refine⟨_,_,_,rfl,row1 (e7.hat hg6),row1 (e7.hat hg6),?_⟩
 have S7:=S5.ext (e6.trans e7)
 have z5:=S5.e.size
 have z6:=e6.size
 have z7:=e7.size
 have hrbn: ∀j∈blks rB,H.size<=j/\j ∉ b.all:=λj hj=>⟨by have:=hrb j hj;omega,λq=>by have:=S5.blt j q;have:=hrb j hj;omega⟩
 have hcfx:=G.cf
 refine HC.mono (S7.collect G.bare (by omega) (wf_i64 hrk.g) (wf_i64 hrk.g) (hro.ext e7) (λj hj=>⟨(hrbn j hj).2,by have:=hro.lt j hj;omega⟩) hpt rfl (λj hj=>⟨(hpb j hj).2,λq=>by have:=S5.blt j q;have:=hpb j hj;omega,λq=>by have:=hro.lt j q;have:=hpb j hj;omega⟩) hrin (by omega)) ?_
 rintro v H8 ⟨hno,hyes⟩
 by_cases hst:startE x.sp r.g r.g 1=0
 case neg=>
  obtain⟨rfl,e8⟩:=hno hst
  refine⟨_,rfl,?_⟩
  rw[if_neg hst]
  exact awake (S7.e.trans e8)
 obtain⟨rfl,young,fw,al,sz2,tr,s3,s4,s5,W⟩:=hyes hst
 refine⟨_,rfl,?_⟩
 rw[if_pos rfl]
 have z4:=G.st.e.size
 have hcall:c ∉ b.all:=λq=>by have:=G.st.blt c q;omega
 have hcrB:c ∉ blks rB:=λq=>by have:=hrb c q;have:=lt_size g5;omega
 have hcn:c ∉ b.all++blks rB:=λq=>(List.mem_append.1 q).elim hcall hcrB
 have g8:=W.fr.get hcn (e7.get g6)
 obtain⟨S8,hyl⟩:=S7.collected W hrbn
 have C1:=W.col
 have hba8:Bare {x with sp:=s5,ep:=IntKind.wrap .u64 (x.ep+1)}:=⟨G.bare.1,G.bare.2⟩
 have hcf8:s5.cf<=100000:=by have:=C1.cf;omega
 obtain⟨X,hX⟩: ∃X:Hp,X={x with sp:=s5,ep:=IntKind.wrap .u64 (x.ep+1)}:=⟨_,rfl⟩
 rw[<-hX]at S8 hba8
 have hsX:X.sp=s5:=by rw[hX]
 rw[<-hsX]at C1 hcf8
 have inv8:=S8.inv
 obtain⟨-,hp8,-⟩:=S8.view.inv
 have hg8:hat H8 ((Addr.mk c 0 none).add 3)=some (.int .i64 r.g):=by rw[box_get g8 3];rfl
 refine⟨_,hg8,_,hp8.hPtr,_,rfl,_,hp8.cd.cPtr,?_⟩
 refine HC.mono (picture_c (g:=r.g) (lost:=false) (rC:=rC) S8.view S8.own.src hyl.symm (by omega) (λw hw=>(S8.good w hw).1)) ?_
 rintro _ H9 ⟨held,B3,n3,c3,ks,rb3,hHeld,rfl,R9,P9,_,hrb3,hB3,e9⟩
 have hp9:=hp8.ext e9
 refine⟨_,_,_,rfl,row1 hp9.hPtr,row1 hp9.cd.cPtr,?_⟩
 refine HC.mono (space_Words_c (gs:=[]) hp9.cd.sp inv8.ok (by rw[SrcAt_none];rfl) rfl (by decide)) ?_
 rintro _ H10 ⟨rfl,e10⟩
 have e810:=e9.trans e10
 have S10:=S8.ext e810
 have hg10:=e810.hat hg8
 refine⟨_,rfl,_,hg10,_,hg10,?_⟩
 have hB10:0<roots.length-> ∃a,rB=some a:=by rw[<-hyl];exact S10.own.some
 refine HC.mono (pointers_c hB10 (by omega)) ?_
 rintro _ H11 ⟨pB',pC',rfl,hpt',hpb',e11⟩
 have S11:=S10.ext e11
 have hg11:=e11.hat hg10
 refine⟨_,_,_,rfl,row1 hg11,row1 hg11,?_⟩
 have z10:=e810.size
 have z11:=e11.size
 rw[<-hyl]at hpt'
 refine HC.mono (S11.collect hba8 hcf8 (wf_i64 hrk.g) (wf_i64 hrk.g) S11.own (λj hj=>⟨(hrbn j hj).2,S11.own.lt j hj⟩) hpt' (by rw[hyl]) (λj hj=>⟨(hpb' j hj).2,λq=>by have:=S10.blt j q;have:=hpb' j hj;omega,λq=>by have:=S10.own.lt j q;have:=hpb' j hj;omega⟩) (λw hw=>hw) (by omega)) ?_
 rintro v H12 ⟨hno2,hyes2⟩
 by_cases hst2:startE X.sp r.g r.g 1=0
 case neg=>
  obtain⟨rfl,e12⟩:=hno2 hst2
  refine⟨_,rfl,?_⟩
  rw[if_neg hst2]
  exact awake (S11.e.trans e12)
 obtain⟨rfl,young',fw',al',sz3,tr',s3',s4',s5',W'⟩:=hyes2 hst2
 refine⟨_,rfl,?_⟩
 rw[if_pos rfl]
 have hcn':c ∉ b.all++blks rB:=hcn
 have g12:=W'.fr.get hcn' (e11.get (e810.get g8))
 obtain⟨S12,hyl'⟩:=S11.collected W' hrbn
 have C2:=W'.col
 have R12:KnRow H12 B3 n3 c3 ks rb3:=((R9.ext e10).ext e11).keep W'.fr (λj hj=>by
  have hj8:j<H8.size:=by
   rcases List.mem_append.1 hj with q | q
   ·exact S8.blt j q
   ·exact S8.own.lt j q
  exact⟨λq=>by have:=hrb3 j q;omega,λq=>by have:=hB3 j q;omega⟩)
 obtain⟨Y,hY⟩: ∃Y:Hp,Y={X with sp:=s5',ep:=IntKind.wrap .u64 (X.ep+1)}:=⟨_,rfl⟩
 rw[<-hY]at S12
 have hsY:Y.sp=s5':=by rw[hY]
 rw[<-hsY]at C2
 have inv12:=S12.inv
 refine⟨r.g,by rw[box_get g12 3];rfl,?_⟩
 refine HC.mono (picture_c (g:=r.g) (lost:=false) (rC:=rC) S12.view S12.own.src (by omega) (by omega) (λw hw=>(S12.good w hw).1)) ?_
 rintro _ H13 ⟨held',B5,n5,c5,ks',rb5,hHeld',rfl,R13,P13,hksn,hrb5,hB5,e13⟩
 refine⟨_,_,_,rfl,?_⟩
 have hks:ks'=ks:=C1.picAgain C2 P9 P13
 have hw2:Y.sp.mem.words []=X.sp.mem.words []:=C1.wordsAgain C2
 refine HC.mono (alike13_c R13 (R12.ext e13) (by rw[R13.n];omega)) ?_
 rintro _ H14 ⟨rfl,rfl⟩
 refine⟨_,rfl,?_⟩
 rw[if_pos (zX hks)]
 obtain⟨-,hp14,-⟩:=(S12.view.ext e13).inv
 refine⟨_,hp14.hPtr,_,rfl,_,hp14.cd.cPtr,?_⟩
 refine HC.mono (space_Words_c (gs:=[]) hp14.cd.sp inv12.ok (by rw[SrcAt_none];rfl) rfl (by decide)) ?_
 rintro _ H15 ⟨rfl,e15⟩
 refine⟨_,rfl,?_⟩
 rw[if_pos hw2]
 exact awake ((S12.e.trans e13).trans e15)
set_option maxRecDepth 100000 in
theorem lifted(os:Os)(started:os.Started)(H:Type)(enc:TypeId×Value->H):
  ReturnsInHanded {} Tryz.checked os 5 .any (Rows.gcAgainSpec.pre6 enc Tryz.prog Tryz.f5 Rows.gcAgainRow.domain false) (Rows.gcAgainSpec.post enc Tryz.prog Tryz.f5 false true false false):=by
 refine law_lifted (tb:=4) started (by kernel_rfl) Tryz.func5
  (ChangeSpec.witness6 (enc:=enc) (C:=Tryz.checked) false ⟨#[],#[.int .i64 0,.slice none 0 0],[]⟩ 8 (by kernel_rfl) (by kernel_rfl) (by kernel_rfl) (by kernel_rfl))
  rfl (by kernel_rfl) rfl Tryz.underlying4 (λds hds=>?_) ?_
 ·match ds,hds with
  | [d0,d1],_=>rfl
 intro W base args ds p hval hA _
 rw[Tryz.params5]at hA hval
 obtain⟨v0,vs0,d0,ds0,p0,q0,hargs,rfl,rfl,h0,r0⟩:=trodAll_cons hA
 obtain⟨v1,vs1,d1,ds1,p1,q1,rfl,rfl,rfl,h1,r1⟩:=trodAll_cons r0
 obtain⟨rfl,rfl,rfl⟩:=trodAll_nil r1
 obtain rfl:args= #[v0,v1]:=by cases args;simp_all
 obtain⟨a0,rfl,rfl,rfl,w0⟩:=open_int Tryz.underlying3 (hval 0 3 v0 rfl rfl) h0
 obtain⟨s1,rfl,w1⟩:=open_read Tryz.underlying47 (by kernel_rfl) reads_RoundOf (B:=maxLen) (.inl rfl) (hval 1 47 v1 rfl rfl) h1
 exact law a0 s1 W.heap (wf_i64 w0) w1

theorem over:Rows.gcAgainRow.holds Tryz.pinned (OpenSpec.ofChange Rows.gcAgainSpec):=
 OpenClaim.holds_of_wide 5 Tryz.f5 rfl rfl rfl rfl rfl rfl rfl ⟨rfl,rfl,rfl,rfl,rfl⟩ rfl rfl rfl rfl rfl (by kernel_rfl) Tryz.func5 (by kernel_rfl)
  (of_decide_eq_true (by kernel_rfl)) (by unfold Func.isWrapper;first | (rw[if_pos (by decide+kernel)];kernel_rfl) | (rw[if_neg (by decide+kernel)];exact⟨rfl,rfl⟩))
  (λos started H enc _=>lifted os started H enc)

theorem proved:Rows.GcAgainSaid:=
 over
#print axioms proved
end Go.Proofs.YtgnokbjknicahaaGreat.gcAgain
