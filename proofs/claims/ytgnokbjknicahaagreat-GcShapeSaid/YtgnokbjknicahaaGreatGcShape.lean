/- The law GcShape of morainelaw13 holds: called with any arguments it answers true and leaves what it was handed as it was. No condition. -/
import Derived.Test.YtgnokbjknicahaaGreatAwake13
import Derived.Test.YtgnokbjknicahaaGreatHkI
import Derived.Test.YtgnokbjknicahaaGreatL13GcShape
set_option linter.unusedVariables false
set_option linter.unusedSimpArgs false
namespace Go.Proofs.YtgnokbjknicahaaGreat.gcShape
open Go Go.Proofs.YtgnokbjknicahaaGreat
open Go.ChangeShapes Go.WideShapes Go.ChangeAt Go.RowKit

def youngW(m:Mem)(g w:Int):Prop:=(m.genOf w).2=true/\(m.genOf w).1<=g
instance (m:Mem) (g w:Int):Decidable (youngW m g w):=by unfold youngW;infer_instance
def sizes(m:Mem)(g:Int)(l:List Int):Int:=((l.filter λw=>decide (youngW m g w)).map m.sizeOf).sum
theorem sizes_snoc(m:Mem)(g:Int)(l:List Int)(w:Int):sizes m g (l++[w])=sizes m g l+if youngW m g w then m.sizeOf w else 0:=by
  unfold sizes
  rw[List.filter_append,List.map_append,List.sum_append]
  by_cases h:youngW m g w
  · rw[if_pos h,List.filter_cons_of_pos (by simpa using h)];simp
  · rw[if_neg h,List.filter_cons_of_neg (by simpa using h)];simp
theorem sizes_rng(m:Mem)(g:Int)(l:List Int):0<=sizes m g l/\sizes m g l<=63*l.length:=by
  unfold sizes
  have h:=sum_sizes m (l.filter λw=>decide (youngW m g w))
  have h2:(l.filter λw=>decide (youngW m g w)).length<=l.length:=List.length_filter_le _ _
  omega
theorem sizes_al{s0 s3 s4 s5:Sp}{sz0 sz:Int->Nat}{g T:Int}{tr:Tr}{roots young:List Int}{fw:Int->Option Int}{al:List Int}(C:Colled s0 sz0 g T tr roots young fw al sz s3 s4 s5){held:List Int}(h:Held s0.mem g roots held):sizes s0.mem g held=((al.map sz0).sum:Nat):=by
  have S:=C.t.S
  have hs:=C.t.heldSum (λv=>Iff.rfl) h
  rw[show((al.map sz0).sum:Nat)=((al.map (TZ.sz ⟨s0.mem,sz0,tr.old,T,(· ∈roots)⟩)).sum:Nat)from rfl,<-hs]
  unfold sizes
  have e:(held.filter λw=>decide (youngW s0.mem g w))=held.filter λw=>decide (isOldW tr.old w):=by
    refine List.filter_congr λw hw=>?_
    obtain⟨w1,w2,_,_⟩:=(S.held (λv=>Iff.rfl) h).1 w hw
    have:=S.gen w1 w2
    unfold youngW
    exact decide_eq_decide.2 this.symm
  rw[e]
theorem above_le(m:Mem)(g:Int):m.above g<=65536:=by
  unfold Mem.above Mem.cnt
  refine Nat.le_trans List.countP_le_length ?_
  rw[List.length_range,tops_eq];exact Nat.le_refl _

set_option maxRecDepth 100000 in
theorem law(limit:Int)(s:Sl RoundOf)(H:zV)(hl:I64 limit)(A:SlOK 6 roundOfR maxLen H s):
    morainelaw13_GcShape.C limit s.p s.n s.c H (λv H'=>v=.bool true/\Ext H H'):=by
  refine HC.via λR hR=>morainelaw13_GcShape.link ?_
  unfold morainelaw13_GcShape.pt zY
  have awake: ∀{A:zV},Ext H A->morainelaw13_awake.C A (λv A'=> ∃x:Bool,v=.bool x/\R (.bool x) A'):=λ{A} e=>HC.mono awake13_c (by
    rintro _ A' ⟨rfl,e'⟩
    exact⟨_,rfl,hR _ _ ⟨rfl,e.trans e'⟩⟩)
  refine HC.mono (begun13_c hl A) ?_
  rintro _ H1 ⟨e1,(rfl | ⟨b,x,sz,mB,mC,made,rfl,hn12,G⟩)⟩
  · refine⟨_,_,_,_,rfl,?_⟩
    rw[onPtr_none]
    exact awake e1
  refine⟨_,_,_,_,rfl,?_⟩
  rw[onPtr_some]
  by_cases h0:(s.n:Int)=0
  · rw[if_pos h0];exact awake e1
  rw[if_neg h0]
  have hlen:=A.len
  rw[w64 (n:=(s.n:Int)-1) (by omega)]
  have hiN:((s.n:Int)-1).toNat<s.xs.length:=by omega
  obtain⟨la,hla,hrow⟩:=A.row _ hiN
  have hrk:RoundOf.OK maxLen H s.xs[((s.n:Int)-1).toNat]:=A.each _ (List.getElem_mem hiN)
  generalize s.xs[((s.n:Int)-1).toNat]=r at*
  refine⟨la,hla,⟨by omega,by omega⟩,_,_,_,_,_,_,_,_,_,_,_,_,G.st.e.rowAt hrow,λc H4 hc4 hH4=>?_⟩
  obtain⟨hcp,hs⟩:=box_new (n:=6) (vs:=r.cells) hc4 hH4 rfl rfl
  refine⟨hcp,λH5 hH5=>?_⟩
  obtain⟨g5,e5⟩:=hs H5 hH5
  refine⟨_,_,_,_,_,_,_,_,_,_,_,_,box_row g5,?_⟩
  have S5:=G.st.ext e5
  have hml:=G.len
  refine HC.mono (roots13_c r S5 (by omega)) ?_
  rintro _ H6 ⟨rB,rC,roots,rfl,e6,hro,hrb,hrin,hrl⟩
  have g6:=e6.get g5
  have S6:=S5.ext e6
  have z5:=S5.e.size
  have z6:=e6.size
  have hcfx:=G.cf
  have hrbn: ∀j∈blks rB,H.size<=j/\j ∉ b.all:=λj hj=>⟨by have:=hrb j hj;omega,λq=>by have:=S5.blt j q;have:=hrb j hj;omega⟩
  have z4:=G.st.e.size
  have hcall:c ∉ b.all:=λq=>by have:=G.st.blt c q;omega
  have hcrB:c ∉ blks rB:=λq=>by have:=hrb c q;have:=lt_size g5;omega
  have hcn:c ∉ b.all++blks rB:=λq=>(List.mem_append.1 q).elim hcall hcrB
  have hcg: ∀{A:zV},Ext H6 A->hat A ((Addr.mk c 0 none).add 3)=some (.int .i64 r.g):=λ{A} e=>by rw[box_get (e.get g6) 3];rfl
  have hct: ∀{A:zV},Ext H6 A->hat A ((Addr.mk c 0 none).add 4)=some (.int .i64 r.target):=λ{A} e=>by rw[box_get (e.get g6) 4];rfl
  have coll: ∀{A A2:zV} {pB:zW} {pC:Nat} {Q:zk},Ext H6 A->Ext A A2->SrcAt A2 pB (ptrs 1 (rB.getD default) roots.length)->(∀j∈blks pB,A.size<=j/\j<A2.size)->
      (∀v A3,(startE x.sp r.g r.target 1≠0->v=.int .i64 (startE x.sp r.g r.target 1)/\Ext A2 A3)/\(startE x.sp r.g r.target 1=0->v=.int .i64 0/\ ∃young fw al sz' tr s3 s4 s5,Went13 A2 A3 b x sz r.g r.target roots young rB rC fw al sz' tr s3 s4 s5)->Q v A3)->
      gc_Collect.C (some ⟨b.h,0,none⟩) r.g r.target pB (1+roots.length) pC A2 Q:=λ{A A2 pB pC Q} eA eA2 hpt hpb hQ=>by
    have SA:=S6.ext eA
    have zA:=eA.size
    have zA2:=eA2.size
    have hroA:=hro.ext eA
    refine HC.mono ((SA.ext eA2).collect G.bare (by omega) (wf_i64 hrk.g) (wf_i64 hrk.target) (hroA.ext eA2) (λj hj=>⟨(hrbn j hj).2,by have:=hro.lt j hj;omega⟩) hpt rfl (λj hj=>⟨(hpb j hj).2,λq=>by have:=SA.blt j q;have:=hpb j hj;omega,λq=>by have:=hro.lt j q;have:=hpb j hj;omega⟩) hrin (by omega)) ?_
    exact hQ
  have refused:r.g<0\/r.g>=4->startE x.sp r.g r.target 1=1:=λh=>by
    unfold startE
    rw[if_pos (by omega)]
  have no:(r.g<0\/r.g>=4)->morainelaw13_pointers.C rB roots.length rC H6 (λv_5 H8=> ∃xB_2:zW,∃xN_2:Nat,∃xC_2:Nat,v_5=.slice xB_2 xN_2 xC_2/\RowAt H8 ((Addr.mk c 0 none).add 3) 0 [.int .i64 r.g]/\RowAt H8 ((Addr.mk c 0 none).add 4) 0 [.int .i64 r.target]/\
       gc_Collect.C (some ⟨b.h,0,none⟩) r.g r.target xB_2 xN_2 xC_2 H8 (λv_6 H9=> ∃x_6:Int,v_6=.int .i64 x_6/\
        if x_6=1 then(
         morainelaw13_awake.C H9 (λv_7 H10=> ∃x_7:Bool,v_7=.bool x_7/\R (.bool x_7) H10))
        else
        R (.bool false) H9)):=λh=>by
    refine HC.mono (pointers_c hro.some (by omega)) ?_
    rintro _ H7 ⟨pB,pC,rfl,hpt,hpb,e7⟩
    refine⟨_,_,_,rfl,row1 (hcg e7),row1 (hct e7),?_⟩
    refine coll (Ext.refl _) e7 hpt hpb λv A3 hv=>?_
    have hst:=refused h
    obtain⟨rfl,e8⟩:=hv.1 (by rw[hst];decide)
    refine⟨_,rfl,?_⟩
    rw[if_pos hst]
    exact awake ((S6.e.trans e7).trans e8)
  refine⟨_,_,_,rfl,_,hcg (Ext.refl _),?_⟩
  by_cases hneg:r.g<0
  · rw[if_pos hneg]
    refine⟨λs A=>R (.bool s) A,⟨_,hcg (Ext.refl _),_,hct (Ext.refl _),no (.inl hneg)⟩,λs A h=>h⟩
  rw[if_neg hneg]
  refine⟨_,hcg (Ext.refl _),?_⟩
  by_cases hbig:r.g>=4
  · rw[if_pos hbig]
    refine⟨λs A=>R (.bool s) A,⟨_,hcg (Ext.refl _),_,hct (Ext.refl _),no (.inr hbig)⟩,λs A h=>h⟩
  rw[if_neg hbig]
  refine⟨_,hcg (Ext.refl _),?_⟩
  have hrw: ∀w∈roots,IsWord w:=λw hw=>(S6.good w (hrin w hw)).1
  refine HC.mono (picture_c (g:=r.g) (lost:=true) (rC:=rC) S6.view hro.src rfl (by omega) hrw) ?_
  rintro _ H9 ⟨held,B3,n3,c3,ks,rb3,hHeld,rfl,R9,P9,_,hrb3,hB3,e9⟩
  refine⟨_,_,_,rfl,_,hcg e9,?_⟩
  have S9:=S6.ext e9
  refine HC.mono (strong_c (g:=r.g) (rC:=rC) S9.view (hro.ext e9).src rfl (by omega) hrw) ?_
  rintro _ H16 ⟨all,hB,hc,hbw,hbm,hAll,rfl,hK,e10,hblk0⟩
  refine⟨_,_,_,_,rfl,?_⟩
  have e16:=e9.trans e10
  have S16:=S6.ext e16
  have ok:=S6.inv.ok
  have hal:=hAll.alls.len
  have hown:=hK.own
  refine⟨λsize i A=>(0<=i/\i<=all.length)/\Ext H16 A/\size=sizes x.sp.mem r.g (all.take i.toNat),λ_ i _=>(all.length-i).toNat,⟨⟨by omega,by omega⟩,Ext.refl _,by simp[sizes]⟩,?_⟩
  rintro size i A ⟨hi,eA,rfl⟩
  have hsr:=sizes_rng x.sp.mem r.g (all.take i.toNat)
  have htl:(all.take i.toNat).length<=all.length:=by rw[List.length_take];omega
  have e6A:=e16.trans eA
  by_cases hlt:i< (all.length:Int)
  · rw[if_pos hlt]
    have hil:i.toNat<all.length:=by omega
    obtain⟨a,ha,hata⟩:=src_wv (hown.src.ext eA) hil
    obtain⟨-,hpA,-⟩:=(S16.ext eA).view.inv
    have htk:all.take (i+1).toNat=all.take i.toNat++[all[i.toNat]]:=by rw[show(i+1).toNat=i.toNat+1 by omega,List.take_succ_eq_append_getElem hil]
    have hww:=hAll.alls.good _ (List.getElem_mem hil)
    refine⟨_,hpA.hPtr,a,ha,⟨hi.1,hlt⟩,_,hata,?_⟩
    generalize all[i.toNat]=w at*
    have hd:((all.length:Int)-(i+1)).toNat< ((all.length:Int)-i).toNat:=by omega
    rw[w64 (n:=i+1) (by omega)]
    refine HC.mono (card_Gen_c hpA.cd hww.1) ?_
    rintro _ A1 ⟨rfl,eA1⟩
    refine⟨_,_,rfl,?_⟩
    have stay: ¬youngW x.sp.mem r.g w->((((0<=i+1/\i+1<=all.length)/\Ext H16 A1/\sizes x.sp.mem r.g (all.take i.toNat)=sizes x.sp.mem r.g (all.take (i+1).toNat))/\((all.length:Int)-(i+1)).toNat< ((all.length:Int)-i).toNat)):=λh=>
      ⟨⟨⟨by omega,by omega⟩,eA.trans eA1,by rw[htk,sizes_snoc,if_neg h];omega⟩,hd⟩
    by_cases hg2:(x.sp.mem.genOf w).2=true
    case neg=>rw[if_neg hg2];exact stay (λq=>hg2 q.1)
    rw[if_pos hg2]
    refine⟨_,hcg (e6A.trans eA1),?_⟩
    by_cases hg1:(x.sp.mem.genOf w).1<=r.g
    case neg=>rw[if_neg hg1];exact stay (λq=>hg1 q.2)
    rw[if_pos hg1]
    refine⟨⟨hi.1,hlt⟩,_,eA1.hat hata,?_⟩
    refine HC.mono (obj_Size_c ((S16.ext eA).ext eA1).view hww.1) ?_
    rintro _ A2 ⟨rfl,eA2⟩
    have hmo:mof (some (b,x))=x.sp.mem:=rfl
    rw[hmo]
    refine⟨_,rfl,?_⟩
    have hs63:=sizeOf_rng x.sp.mem w
    rw[w64 (n:=sizes x.sp.mem r.g (all.take i.toNat)+x.sp.mem.sizeOf w) (by omega)]
    exact⟨⟨⟨by omega,by omega⟩,(eA.trans eA1).trans eA2,by rw[htk,sizes_snoc,if_pos ⟨hg2,hg1⟩]⟩,hd⟩
  rw[if_neg hlt]
  rw[List.take_of_length_le (by omega)]at hsr⊢
  refine⟨_,hcg e6A,?_⟩
  have hle:=above_le x.sp.mem
  obtain⟨-,hpA,-⟩:=(S16.ext eA).view.inv
  refine⟨λabove g A'=>(r.g+1<=g/\g<=5)/\Ext A A'/\above+x.sp.mem.above (g-1)=x.sp.mem.above r.g,λ_ g _=>(5-g).toNat,?_,?_⟩
  · rw[w64 (n:=r.g+1) (by omega)]
    exact⟨⟨by omega,by omega⟩,Ext.refl _,by rw[show r.g+1-1=r.g by omega];omega⟩
  rintro above g A' ⟨hg,eA',hab⟩
  have hp':=hpA.ext eA'
  by_cases hlt4:g<=4
  · rw[if_pos hlt4]
    refine⟨_,hp'.hPtr,_,rfl,_,hp'.cd.cPtr,λb4 H4' hb4 hH4'=>?_⟩
    have e4:Ext A' H4':=Ext.push' hH4'
    have hd:(5-(g+1)).toNat< (5-g).toNat:=by omega
    have h0:=hle r.g
    have h1:=hle (g-1)
    have hst:=Mem.above_step ok.mem g
    have hwb:=hle g
    refine HC.mono (space_Words_c (gs:=[g]) (hp'.ext e4).cd.sp ok (show SrcAt H4' (some ⟨b4,0,none⟩) (ivs [g])from⟨by rw[addr_add_mk,hat_blk (push_get hb4 hH4')];rfl,trivial⟩) rfl (by decide)) ?_
    rintro _ H5' ⟨rfl,e5'⟩
    refine⟨_,rfl,?_⟩
    rw[w64 (n:=g+1) (by omega),w64 (n:=above+x.sp.mem.words [g]) (by omega)]
    exact⟨⟨⟨by omega,by omega⟩,(eA'.trans e4).trans e5',by rw[show g+1-1=g by omega];omega⟩,hd⟩
  rw[if_neg hlt4]
  rw[Mem.above_4 ok.mem (by omega)]at hab
  obtain rfl:above=x.sp.mem.above r.g:=by simpa using hab
  have hab0:=hle r.g
  refine⟨_,hp'.hPtr,_,rfl,_,hp'.cd.cPtr,?_⟩
  refine HC.mono (space_Words_c (gs:=[]) hp'.cd.sp ok (by rw[SrcAt_none];rfl) rfl (by decide)) ?_
  rintro _ H23 ⟨rfl,e23'⟩
  have e23:Ext H6 H23:=(e6A.trans eA').trans e23'
  refine⟨_,rfl,_,hcg e23,_,hct e23,?_⟩
  refine HC.mono (pointers_c (hro.ext e23).some (by omega)) ?_
  rintro _ H24 ⟨pB,pC,rfl,hpt,hpb,e24⟩
  have e624:=e23.trans e24
  refine⟨_,_,_,rfl,row1 (hcg e624),row1 (hct e624),?_⟩
  refine coll e23 e24 hpt hpb λv H25 hv=>?_
  have S24:=S6.ext e624
  by_cases hst:startE x.sp r.g r.target 1=0
  case neg=>
    obtain⟨rfl,e25⟩:=hv.1 hst
    refine⟨_,rfl,?_⟩
    rw[if_neg hst]
    have S25:=S24.ext e25
    obtain⟨-,hp25,-⟩:=S25.view.inv
    refine⟨λs A=>R (.bool s) A,⟨_,hp25.hPtr,_,rfl,_,hp25.cd.cPtr,?_⟩,λs A h=>h⟩
    refine HC.mono (space_Words_c (gs:=[]) hp25.cd.sp ok (by rw[SrcAt_none];rfl) rfl (by decide)) ?_
    rintro _ H34 ⟨rfl,e34⟩
    refine⟨_,rfl,?_⟩
    rw[if_pos rfl]
    exact awake (S25.e.trans e34)
  obtain⟨rfl,young,fw,al,sz2,tr,s3,s4,s5,W⟩:=hv.2 hst
  refine⟨_,rfl,?_⟩
  rw[if_pos rfl]
  have g25:=W.fr.get hcn (e624.get g6)
  obtain⟨S25,hyl⟩:=S24.collected W hrbn
  have C1:=W.col
  obtain⟨X,hX⟩: ∃X:Hp,X={x with sp:=s5,ep:=IntKind.wrap .u64 (x.ep+1)}:=⟨_,rfl⟩
  rw[<-hX]at S25
  have hsX:X.sp=s5:=by rw[hX]
  rw[<-hsX]at C1
  have inv25:=S25.inv
  have z9:=e9.size
  have R25:KnRow H25 B3 n3 c3 ks rb3:=(R9.ext (((e10.trans eA).trans eA').trans (e23'.trans e24))).keep W.fr (λj hj=>by
    have hj6:j<H6.size:=by
      rcases List.mem_append.1 hj with q | q
      · exact S6.blt j q
      · exact hro.lt j q
    exact⟨λq=>by have:=hrb3 j q;omega,λq=>by have:=hB3 j q;omega⟩)
  refine⟨r.target,by rw[box_get g25 4];rfl,?_⟩
  refine HC.mono (picture_c (g:=r.target) (lost:=false) (rC:=rC) S25.view S25.own.src hyl.symm (by omega) (λw hw=>(S25.good w hw).1)) ?_
  rintro _ H26 ⟨held',B5,n5,c5,ks',rb5,hHeld',rfl,R26,P26,hksn,hrb5,hB5,e26⟩
  refine⟨_,_,_,rfl,?_⟩
  have hks:ks'=ks:=C1.picShape hHeld P9 P26
  refine HC.mono (alike13_c R26 (R25.ext e26) (by rw[R26.n];omega)) ?_
  rintro _ H27 ⟨rfl,rfl⟩
  refine⟨_,rfl,?_⟩
  rw[if_pos (zX hks)]
  obtain⟨-,hp27,-⟩:=(S25.view.ext e26).inv
  refine⟨_,hp27.hPtr,_,rfl,_,hp27.cd.cPtr,?_⟩
  refine HC.mono (space_Words_c (gs:=[]) hp27.cd.sp inv25.ok (by rw[SrcAt_none];rfl) rfl (by decide)) ?_
  rintro _ H28 ⟨rfl,e28⟩
  refine⟨_,rfl,?_⟩
  have hwd:X.sp.mem.words []=(x.sp.mem.above r.g:Int)+sizes x.sp.mem r.g all:=by
    rw[sizes_al C1 hAll]
    exact C1.t.words inv25.ok.mem
  rw[w64 (n:=(x.sp.mem.above r.g:Int)+sizes x.sp.mem r.g all) (by omega),if_pos hwd]
  have e2528:=e26.trans e28
  refine⟨λg A=>(0<=g/\g<=4)/\Ext H25 A,λg _=>(5-g).toNat,⟨by omega,e2528⟩,?_⟩
  rintro g' A9 ⟨hgr,eA9⟩
  refine⟨r.g,by rw[box_get (eA9.get g25) 3];rfl,?_⟩
  by_cases hlt9:g'<=r.g
  case neg=>rw[if_neg hlt9];exact awake (S25.e.trans eA9)
  rw[if_pos hlt9]
  have hd:(5-(g'+1)).toNat< (5-g').toNat:=by omega
  rw[w64 (n:=g'+1) (by omega)]
  refine⟨r.target,by rw[box_get (eA9.get g25) 4];rfl,?_⟩
  by_cases ht:g'=r.target
  · rw[if_pos ht]
    exact⟨⟨by omega,eA9⟩,hd⟩
  rw[if_neg ht]
  obtain⟨-,hp9,-⟩:=(S25.view.ext eA9).inv
  refine⟨_,hp9.hPtr,_,rfl,_,hp9.cd.cPtr,λb6 H30 hb6 hH30=>?_⟩
  have e30:Ext A9 H30:=Ext.push' hH30
  refine HC.mono (space_Words_c (gs:=[g']) (hp9.ext e30).cd.sp inv25.ok (show SrcAt H30 (some ⟨b6,0,none⟩) (ivs [g'])from⟨by rw[addr_add_mk,hat_blk (push_get hb6 hH30)];rfl,trivial⟩) rfl (by decide)) ?_
  rintro _ H31 ⟨rfl,e31⟩
  refine⟨_,rfl,?_⟩
  rw[if_pos (C1.t.empty inv25.ok.mem hlt9 ht)]
  exact⟨⟨by omega,(eA9.trans e30).trans e31⟩,hd⟩
set_option maxRecDepth 100000 in
theorem lifted(os:Os)(started:os.Started)(H:Type)(enc:TypeId×Value->H):
    ReturnsInHanded {} Tryz.checked os 4 .any (Rows.gcShapeSpec.pre6 enc Tryz.prog Tryz.f4 Rows.gcShapeRow.domain false) (Rows.gcShapeSpec.post enc Tryz.prog Tryz.f4 false true false false):=by
  refine law_lifted (tb:=4) started (by kernel_rfl) Tryz.func4
    (ChangeSpec.witness6 (enc:=enc) (C:=Tryz.checked) false ⟨#[],#[.int .i64 0,.slice none 0 0],[]⟩ 8 (by kernel_rfl) (by kernel_rfl) (by kernel_rfl) (by kernel_rfl))
    rfl (by kernel_rfl) rfl Tryz.underlying4 (λds hds=>?_) ?_
  · match ds,hds with
    | [d0,d1],_=>rfl
  intro W base args ds p hval hA _
  rw[Tryz.params4]at hA hval
  obtain⟨v0,vs0,d0,ds0,p0,q0,hargs,rfl,rfl,h0,r0⟩:=trodAll_cons hA
  obtain⟨v1,vs1,d1,ds1,p1,q1,rfl,rfl,rfl,h1,r1⟩:=trodAll_cons r0
  obtain⟨rfl,rfl,rfl⟩:=trodAll_nil r1
  obtain rfl:args= #[v0,v1]:=by cases args;simp_all
  obtain⟨a0,rfl,rfl,rfl,w0⟩:=open_int Tryz.underlying3 (hval 0 3 v0 rfl rfl) h0
  obtain⟨s1,rfl,w1⟩:=open_read Tryz.underlying47 (by kernel_rfl) reads_RoundOf (B:=maxLen) (.inl rfl) (hval 1 47 v1 rfl rfl) h1
  exact law a0 s1 W.heap (wf_i64 w0) w1

theorem over:Rows.gcShapeRow.holds Tryz.pinned (OpenSpec.ofChange Rows.gcShapeSpec):=
  OpenClaim.holds_of_wide 4 Tryz.f4 rfl rfl rfl rfl rfl rfl rfl ⟨rfl,rfl,rfl,rfl,rfl⟩ rfl rfl rfl rfl rfl (by kernel_rfl) Tryz.func4 (by kernel_rfl)
    (of_decide_eq_true (by kernel_rfl)) (by unfold Func.isWrapper;first | (rw[if_pos (by decide+kernel)];kernel_rfl) | (rw[if_neg (by decide+kernel)];exact⟨rfl,rfl⟩))
    (λos started H enc _=>lifted os started H enc)

theorem proved:Rows.GcShapeSaid:=
  over
#print axioms proved
end Go.Proofs.YtgnokbjknicahaaGreat.gcShape
