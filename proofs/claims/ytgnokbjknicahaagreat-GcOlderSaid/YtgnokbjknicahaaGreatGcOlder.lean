/- The law GcOlder of morainelaw13 holds: called with any arguments it answers true and leaves what it was handed as it was. No condition. -/
import Derived.Test.YtgnokbjknicahaaGreatAwake13
import Derived.Test.YtgnokbjknicahaaGreatMapR
import Derived.Test.YtgnokbjknicahaaGreatL13GcOlder
import Derived.Test.YtgnokbjknicahaaGreatRead
set_option linter.unusedVariables false
set_option linter.unusedSimpArgs false
namespace Go.Proofs.YtgnokbjknicahaaGreat.gcOlder
open Go Go.Proofs.YtgnokbjknicahaaGreat
open Go.ChangeShapes Go.WideShapes Go.ChangeAt Go.RowKit

theorem and7o{w:Int}(hw:IsWord w):iand .u64 w 7=w % 8:=iand_mask 3 (by decide) ⟨hw.1,by have:=hw.2;omega⟩ 7 (by decide)
theorem at_word{a:Int}(h:0<=a/\a<65536):ior .u64 (ishl .u64 (IntKind.wrap .u64 a) 3) 1=a*8+1:=by
  have e:IntKind.wrap .u64 a=a:=by
    show a % 18446744073709551616=a
    omega
  rw[e,ishl_u64 3 3 rfl (by decide)]
  have e2:a*2 ^ 3 % 18446744073709551616=a*8:=by omega
  rw[e2]
  exact ior_add 3 ⟨by omega,by omega⟩ (by omega) (by decide) (by decide)
theorem mput_mem{k:Int}{v:Value}: ∀{ks:List (Int×Value)} {p:Int×Value},p∈mput ks k v->p∈ks\/p=(k,v)
  | [],p,h=>by simp[mput]at h;exact .inr h
  | q::ks,p,h=>by
    unfold mput at h
    by_cases e:k=q.1
    · rw[if_pos e]at h
      rcases List.mem_cons.1 h with r | r
      · exact .inr r
      · exact .inl (List.mem_cons_of_mem _ r)
    · rw[if_neg e]at h
      rcases List.mem_cons.1 h with r | r
      · exact .inl (by rw[r];simp)
      · rcases mput_mem r with t | t
        · exact .inl (List.mem_cons_of_mem _ t)
        · exact .inr t
theorem older{s0 s3 s4 s5:Sp}{sz0 sz:Int->Nat}{g T:Int}{tr:Tr}{roots young:List Int}{fw:Int->Option Int}{al:List Int}(C:Colled s0 sz0 g T tr roots young fw al sz s3 s4 s5){x:Int}(hu:s0.mem.used x)(hg:g<s0.mem.gAt x):
    s5.mem.used x/\s5.mem.gAt x=s0.mem.gAt x/\(¬isTag (s0.mem.get x)->s5.mem.get x=s0.mem.get x):=by
  have t:=C.t
  have S:=t.S
  have ho:tr.old (x / 64).toNat=false:=by
    cases q:tr.old (x / 64).toNat with
    | false=>rfl
    | true=>
      have h:(s0.mem.seg (x / 64).toNat).gen<=g:=((S.old _ (S.lt hu).1).1 q).2
      have hg':g< (s0.mem.seg (x / 64).toNat).gen:=hg
      omega
  have hu3:s3.mem.used x:=t.tri.heads.used hu
  have hu5:s5.mem.used x:=t.used.2 ⟨hu3,ho⟩
  have hk:=t.tri.kAt hu
  refine⟨hu5,(t.kind hu5).2.trans hk.2,λhn=>?_⟩
  have no: ¬isOldW tr.old (s0.mem.get x):=λq=>hn (old_tag q)
  have hw:Was ⟨s0.mem,sz0,tr.old,T,(· ∈roots)⟩ fw x (s0.mem.get x):=.inl ⟨hu,ho,rfl⟩
  rcases t.get hw with⟨q,_⟩ | ⟨_,k1,ev⟩
  · rw[q]
    split
    · rfl
    · exact Fw_no no
  · have h4:=C.brk.exact x _ hu3 ho k1 ev hw
    rw[if_neg (λq=>no q.1)]at h4
    exact(t.ended.get ho).1.trans (h4.trans (Fw_no no))
def Om(A:Array Obj)(bm:Nat)(m:Mem)(g:Int):Prop:= ∃(es:Array MapEntry) (cl:Nat) (ks:List (Int×Value)),A[bm]?=some (.map es cl)/\Ents (intKey .i64) es.toList ks/\Born es cl/\ ∀p∈ks,p.2=.int .u64 (m.get p.1)/\m.used p.1/\g<m.gAt p.1
theorem Om.fr{S:List Nat}{A A':Array Obj}{bm:Nat}{m:Mem}{g:Int}(h:Om A bm m g)(f:Fr S A A')(hn:bm ∉ S):Om A' bm m g:=by
  obtain⟨es,cl,ks,h1,h2⟩:=h
  exact⟨es,cl,ks,f.get hn h1,h2⟩
set_option maxRecDepth 100000 in
theorem old_loop{Q:Array Obj->Prop}{HB H11:Array Obj}{b:Blk}{x:Hp}{c bm cs kk:Nat}{i:Int}{tB:Option Addr}{tC:Nat}{l:List Nat}{ta:Addr}{r:RoundOf}(hta:tB=some ta)
    (hp:HpAt HB b x) (ok:SpOK x.sp) (gc:HB[c]?=some (.cells r.cells.toArray 55 (0,0))) (eB:Ext HB H11) (hbm:HB.size<=bm) (hcs:HB.size<=cs/\cs<H11.size/\cs≠bm) (hts: ∀j∈blks tB,HB.size<=j/\j≠bm)
    (hkk:x.sp.mem.has kk/\kk<1024) (hi:0<=i) (hil:i.toNat<l.length) (hlk:l[i.toNat]=kk)
    (h0:hat H11 ⟨cs,0,none⟩=some (.int .i64 (x.sp.mem.seg kk).gen)) (h2:hat H11 ⟨cs,2,none⟩=some (.int .i64 (x.sp.mem.seg kk).n))
    (T0:Own H11 3 1 tB l.length tC (ivs (l.map λi:Nat=>(i:Int)))) (O0:Om H11 bm x.sp.mem r.g)
    (hQ: ∀(A:Array Obj),Ext HB A->Own A 3 1 tB l.length tC (ivs (l.map λi:Nat=>(i:Int)))->Om A bm x.sp.mem r.g->Q A):
       ∃(I40:Int->Array Obj->Prop) (m40:Int->Array Obj->Nat),I40 0 H11/\ ∀(k:Int) (H12:Array Obj),I40 k H12->
       ∃x_10:Int,hat H12 ((Addr.mk cs 0 none).add 2)=some (.int .i64 x_10)/\
       if k<x_10 then(
        ∃x_11:Int,hat H12 (Addr.mk cs 0 none)=some (.int .i64 x_11)/\
        ∃x_12:Int,hat H12 ((Addr.mk c 0 none).add 3)=some (.int .i64 x_12)/\
        if x_11>x_12 then(
         ((0:Int)<=i/\i< (l.length:Int))/\
         ∃x_13:Int,hat H12 (ta.add (Int.toNat i*1))=some (.int .i64 x_13)/\
         ∃x_14:Option Addr,hat H12 ⟨b.h,0,none⟩=some (.pointer x_14)/\
         ∃x14A:Addr,x_14=some x14A/\
         ∃x_15:Option Addr,hat H12 x14A=some (.pointer x_15)/\
         ∃x15A:Addr,x_15=some x15A/\
         ∃x_16:Option Addr,hat H12 x15A=some (.pointer x_16)/\
         ((0:Int)<=i/\i< (l.length:Int))/\
         ∃x_17:Int,hat H12 (ta.add (Int.toNat i*1))=some (.int .i64 x_17)/\
         seg_Mem_Read.C x_16 (IntKind.wrap .i64 ((IntKind.wrap .i64 (64*x_17))+k)) H12 (λv_6 H13=> ∃ra_2:Int,∃rb_2:Int,v_6=.tuple #[.int .u64 ra_2,.int .i64 rb_2]/\RowAt H13 (ta.add (Int.toNat i*1)) 0 [.int .i64 x_13]/\
          ∃(es:Array MapEntry) (cl:Nat) (ks:List (Int×Value)),H13[bm]?=some (.map es cl)/\Ents (intKey .i64) es.toList ks/\
          ∀(es_2:Array MapEntry) (cl_2:Nat) (H14:Array Obj),H14=setBlk H13 bm (.map es_2 cl_2)->Ents (intKey .i64) es_2.toList (mput ks (IntKind.wrap .i64 ((IntKind.wrap .i64 (64*x_13))+k)) (.int .u64 ra_2))->(Born es cl->Born es_2 cl_2)->
          (I40 (IntKind.wrap .i64 (k+1)) H14/\m40 (IntKind.wrap .i64 (k+1)) H14<m40 k H12)))
        else
        Q H12)
       else
       Q H12:=by
  have hn64:=(ok.mem.seg kk).n
  have hkn:((kk:Nat):Int).toNat=kk:=by omega
  refine⟨λk A=>(0<=k/\k<=(x.sp.mem.seg kk).n)/\Ext HB A/\cs<A.size/\Own A 3 1 tB l.length tC (ivs (l.map λi:Nat=>(i:Int)))/\Om A bm x.sp.mem r.g/\hat A ⟨cs,0,none⟩=some (.int .i64 (x.sp.mem.seg kk).gen)/\hat A ⟨cs,2,none⟩=some (.int .i64 (x.sp.mem.seg kk).n),λk _=>(100-k).toNat,
    ⟨⟨by omega,hn64.1⟩,eB,hcs.2.1,T0,O0,h0,h2⟩,?_⟩
  rintro k A ⟨hk,e,hcA,T,O,g0,g2⟩
  refine⟨_,by rw[addr_add_mk];exact g2,?_⟩
  by_cases hkn2:k< (x.sp.mem.seg kk).n
  case neg=>rw[if_neg hkn2];exact hQ A e T O
  rw[if_pos hkn2]
  refine⟨_,g0,r.g,by rw[box_get (e.get gc) 3];rfl,?_⟩
  by_cases hgg:(x.sp.mem.seg kk).gen>r.g
  case neg=>rw[if_neg hgg];exact hQ A e T O
  rw[if_pos hgg]
  obtain⟨ta',hta',hat15⟩:=ivs_at T hil
  obtain rfl:ta'=ta:=by rw[hta]at hta';cases hta';rfl
  rw[hlk]at hat15
  have hpA:=hp.ext e
  refine⟨⟨hi,by omega⟩,_,hat15,_,hpA.hPtr,_,rfl,_,hpA.cd.cPtr,_,rfl,_,hpA.cd.sp.memPtr,⟨hi,by omega⟩,_,hat15,?_⟩
  have hkk2:=hkk.2
  rw[w64 (n:=64*((kk:Nat):Int)) (by omega),w64 (n:=64*((kk:Nat):Int)+k) (by omega),w64 (n:=k+1) (by omega)]
  refine HC.mono (read_wC hpA.cd.sp.mem ok.mem (by omega)) ?_
  have hd:(100-(k+1)).toNat< (100-k).toNat:=by omega
  rintro _ A1 ⟨rfl,rfl⟩
  have ea:(64*((kk:Nat):Int)+k) / 64=kk:=by omega
  have em:(64*((kk:Nat):Int)+k) % 64=k:=by omega
  have hu:x.sp.mem.used (64*((kk:Nat):Int)+k):=⟨by omega,by rw[ea];exact hkk.1,by rw[ea,em,hkn];exact hkn2⟩
  have hrd:x.sp.mem.read (64*((kk:Nat):Int)+k)=x.sp.mem.get (64*((kk:Nat):Int)+k):=by unfold Mem.read;rw[if_pos hu]
  have hga:r.g<x.sp.mem.gAt (64*((kk:Nat):Int)+k):=by
    unfold Mem.gAt
    rw[ea,hkn];exact hgg
  obtain⟨es,cl,ks,o1,o2,o3,o4⟩:=O
  refine⟨_,_,rfl,⟨by rw[addr_add0];exact hat15,trivial⟩,es,cl,ks,o1,o2,λes2 cl2 A2 hA2 he2 hb2=>?_⟩
  have f:Fr [bm] A1 A2:=by rw[hA2];exact Fr.set
  have hc2:cs ∉ [bm]:=by simp;exact hcs.2.2
  refine⟨⟨⟨by omega,by omega⟩,e.fr_trans f (λj hj=>by simp at hj;omega),by have:=f.size;omega,T.keep f (λj hj=>by simp;exact(hts j hj).2),⟨es2,cl2,_,by rw[hA2];exact setBlk_get (lt_size o1),he2,hb2 o3,λp hpm=>?_⟩,f.hat hc2 g0,f.hat hc2 g2⟩,hd⟩
  rcases mput_mem hpm with q | q
  · exact o4 p q
  · rw[q];exact⟨by rw[hrd],hu,hga⟩

set_option maxRecDepth 100000 in
set_option maxHeartbeats 1000000 in
theorem law(limit:Int)(s:Sl RoundOf)(H:Array Obj)(hl:I64 limit)(A:SlOK 6 roundOfR maxLen H s):
    morainelaw13_GcOlder.C limit s.p s.n s.c H (λv H'=>v=.bool true/\Ext H H'):=by
  refine HC.via λR hR=>morainelaw13_GcOlder.link ?_
  unfold morainelaw13_GcOlder.pt
  have awake: ∀{A:Array Obj},Ext H A->morainelaw13_awake.C A (λv A'=> ∃x:Bool,v=.bool x/\R (.bool x) A'):=λ{A} e=>HC.mono awake13_c (by
    rintro _ A' ⟨rfl,e'⟩
    exact⟨_,rfl,hR _ _ ⟨rfl,e.trans e'⟩⟩)
  refine HC.mono (begun13_c hl A) ?_
  rintro _ H1 ⟨e1,(rfl | ⟨b,x,sz,mB,mC,made,rfl,hn12,G⟩)⟩
  · refine⟨_,_,_,_,rfl,?_⟩
    rw[onPtr_none]
    exact awake e1
  refine⟨_,_,_,_,rfl,?_⟩
  rw[onPtr_some]
  by_cases h0:(s.n:Int)=0
  · rw[if_pos h0];exact awake e1
  rw[if_neg h0]
  have hlen:=A.len
  rw[w64 (n:=(s.n:Int)-1) (by omega)]
  have hiN:((s.n:Int)-1).toNat<s.xs.length:=by omega
  obtain⟨la,hla,hrow⟩:=A.row _ hiN
  have hrk:RoundOf.OK maxLen H s.xs[((s.n:Int)-1).toNat]:=A.each _ (List.getElem_mem hiN)
  generalize s.xs[((s.n:Int)-1).toNat]=r at*
  refine⟨la,hla,⟨by omega,by omega⟩,_,_,_,_,_,_,_,_,_,_,_,_,G.st.e.rowAt hrow,λc H4 hc4 hH4=>?_⟩
  obtain⟨hcp,hs⟩:=box_new (n:=6) (vs:=r.cells) hc4 hH4 rfl rfl
  refine⟨hcp,λH5 hH5=>?_⟩
  obtain⟨g5,e5⟩:=hs H5 hH5
  have S5:=G.st.ext e5
  have hml:=G.len
  obtain⟨-,hp5,ok⟩:=S5.view.inv
  intro bm H6 hbm hH6
  have e6:Ext H5 H6:=Ext.push' hH6
  have z6:H6.size=H5.size+1:=by rw[hH6];simp
  have hp6:=hp5.ext e6
  refine⟨_,hp6.hPtr,_,rfl,_,hp6.cd.cPtr,_,rfl,_,hp6.cd.sp.memPtr,?_⟩
  refine HC.mono (seg_Taken_c (gs:=[]) hp6.cd.sp.mem ok.mem (by rw[SrcAt_none];rfl) rfl (by decide)) ?_
  rintro _ H7 ⟨tB,tC,l,rfl,hl2,hol,hfl,e7⟩
  refine⟨_,_,_,rfl,?_⟩
  have hlim:=ok.mem.lim
  have hllen:=hl2.len
  have e57:=e6.trans e7
  have Om7:Om H7 bm x.sp.mem r.g:=⟨#[],0,[],e7.get (push_get hbm hH6),rfl,born_nil,λp hp=>by cases hp⟩
  have hts: ∀j∈blks tB,H5.size<=j/\j≠bm:=λj hj=>by have:=hfl j hj;omega
  refine⟨λi A=>(0<=i/\i<=l.length)/\Ext H5 A/\Own A 3 1 tB l.length tC (ivs (l.map λi:Nat=>(i:Int)))/\Om A bm x.sp.mem r.g,λi _=>(l.length-i).toNat,⟨⟨by omega,by omega⟩,e57,hol,Om7⟩,?_⟩
  rintro i H8 ⟨hi,e8,T8,O8⟩
  by_cases hlt:i< (l.length:Int)
  · rw[if_pos hlt]
    have hil:i.toNat<l.length:=by omega
    obtain⟨ta,hta,hatt⟩:=ivs_at T8 hil
    obtain⟨khas,klim,kpos,_⟩:=hl2.has (List.getElem_mem hil)
    generalize hk:l[i.toNat]=k at*
    have hd:((l.length:Int)-(i+1)).toNat< ((l.length:Int)-i).toNat:=by omega
    have hp8:=hp5.ext e8
    have hsg:x.sp.mem.segOr k=x.sp.mem.seg k:=by unfold Mem.segOr;rw[if_pos khas,show((k:Nat):Int).toNat=k by omega]
    rw[w64 (n:=i+1) (by omega)]
    refine⟨_,hp8.hPtr,_,rfl,_,hp8.cd.cPtr,_,rfl,_,hp8.cd.sp.memPtr,ta,hta,⟨hi.1,hlt⟩,_,hatt,?_⟩
    have fin: ∀(A:Array Obj),Ext H5 A->Own A 3 1 tB l.length tC (ivs (l.map λi:Nat=>(i:Int)))->Om A bm x.sp.mem r.g->(((0<=i+1/\i+1<=l.length)/\Ext H5 A/\Own A 3 1 tB l.length tC (ivs (l.map λi:Nat=>(i:Int)))/\Om A bm x.sp.mem r.g)/\((l.length:Int)-(i+1)).toNat< ((l.length:Int)-i).toNat):=λA q1 q2 q3=>⟨⟨⟨by omega,by omega⟩,q1,q2,q3⟩,hd⟩
    have z8:=e8.size
    have hbm8:bm<H8.size:=by
      obtain⟨es,cl,ks,o1,_⟩:=O8
      exact lt_size o1
    constructor
    · refine HC.mono (seg_Seg_c' hp8.cd.sp.mem) ?_
      rintro _ H9 ⟨rfl,e9⟩
      rw[hsg]
      refine⟨_,_,_,_,_,_,_,_,rfl,λc8 H10 hc8 hH10=>?_⟩
      obtain⟨hcp2,hs2⟩:=head_slot (x.sp.mem.seg k) hc8 hH10
      refine⟨hcp2,λH11 hH11=>?_⟩
      obtain⟨e11,g0,g1,g2,_⟩:=hs2 H11 hH11
      have e811:=e9.trans e11
      have z9:=e9.size
      have hsz:c8<H11.size:=by
        have:=e11.size
        have h10:H10.size=H9.size+1:=by rw[hH10];simp
        rcases Nat.lt_or_ge c8 H11.size with q | q
        · exact q
        · exfalso
          unfold hat at g0
          rw[Array.getElem?_eq_none (by simpa using q)]at g0
          simp at g0
      exact old_loop hta hp5 ok g5 (e8.trans e811) (by omega) ⟨by omega,hsz,by omega⟩ hts ⟨khas,by omega⟩ hi.1 hil hk g0 g2 (T8.ext e811) (O8.fr (S:=[]) e811.fr (by simp)) fin
    · intro c9 H9 hc9 hH9
      have e9:Ext H8 H9:=Ext.push' hH9
      have z9:H9.size=H8.size+1:=by rw[hH9];simp
      refine⟨row1 (e9.hat hp8.hPtr),row1 (e9.hat hp8.cd.cPtr),row1 (e9.hat hp8.cd.sp.memPtr),⟨by rw[addr_add0];exact e9.hat hatt,trivial⟩,?_⟩
      have hp9:=hp8.ext e9
      refine HC.mono (seg_Seg_c' hp9.cd.sp.mem) ?_
      rintro _ H10 ⟨rfl,e10⟩
      rw[hsg]
      obtain⟨hcA,hsA⟩:=boxed (vs:=[.int .i64 (x.sp.mem.seg k).gen,.int .i64 (x.sp.mem.seg k).kind,.int .i64 (x.sp.mem.seg k).n,.int .i64 ((x.sp.mem.seg k).cards 0),.int .i64 ((x.sp.mem.seg k).cards 1),.int .i64 ((x.sp.mem.seg k).cards 2),.int .i64 ((x.sp.mem.seg k).cards 3)]) (H1:=H10) (e10.get (push_get hc9 hH9)) rfl rfl
      refine⟨_,_,_,_,_,_,_,_,rfl,hcA,λH11 hH11=>?_⟩
      obtain⟨hr11,hE11⟩:=hsA H11 hH11
      have e11:Ext H8 H11:=hE11 H8 (e9.trans e10) (by omega)
      have hsz:c9<H11.size:=by
        rcases Nat.lt_or_ge c9 H11.size with q | q
        · exact q
        · exfalso
          have g0:=hr11.1
          unfold hat at g0
          rw[Array.getElem?_eq_none (by simpa using q)]at g0
          simp at g0
      exact old_loop hta hp5 ok g5 (e8.trans e11) (by omega) ⟨by omega,hsz,by omega⟩ hts ⟨khas,by omega⟩ hi.1 hil hk hr11.1 hr11.2.2.1 (T8.ext e11) (O8.fr (S:=[]) e11.fr (by simp)) fin
  rw[if_neg hlt]
  have g8:=e8.get g5
  have S8:=S5.ext e8
  refine⟨_,_,_,_,_,_,_,_,_,_,_,_,box_row g8,?_⟩
  refine HC.mono (roots13_c r S8 (by omega)) ?_
  rintro _ H21 ⟨rB,rC,roots,rfl,e21,hro,hrb,hrin,hrl⟩
  have g21:=e21.get g8
  have hg3:hat H21 ((Addr.mk c 0 none).add 3)=some (.int .i64 r.g):=by rw[box_get g21 3];rfl
  have hg4:hat H21 ((Addr.mk c 0 none).add 4)=some (.int .i64 r.target):=by rw[box_get g21 4];rfl
  refine⟨_,_,_,rfl,_,hg3,_,hg4,?_⟩
  refine HC.mono (pointers_c hro.some (by omega)) ?_
  rintro _ H22 ⟨pB,pC,rfl,hpt,hpb,e22⟩
  refine⟨_,_,_,rfl,row1 (e22.hat hg3),row1 (e22.hat hg4),?_⟩
  have S22:=S8.ext (e21.trans e22)
  have z1:=S5.e.size
  have z8:=e8.size
  have z21:=e21.size
  have z22:=e22.size
  have hrbn: ∀j∈blks rB,H.size<=j/\j ∉ b.all:=λj hj=>⟨by have:=hrb j hj;omega,λq=>by have:=S8.blt j q;have:=hrb j hj;omega⟩
  have hcfx:=G.cf
  refine HC.mono (S22.collect G.bare (by omega) (wf_i64 hrk.g) (wf_i64 hrk.target) (hro.ext e22) (λj hj=>⟨(hrbn j hj).2,by have:=hro.lt j hj;omega⟩) hpt rfl (λj hj=>⟨(hpb j hj).2,λq=>by have:=S8.blt j q;have:=hpb j hj;omega,λq=>by have:=hro.lt j q;have:=hpb j hj;omega⟩) hrin (by omega)) ?_
  rintro v H23 hpost
  have key: ∃(f:Int) (X:Hp),v=.int .i64 f/\HpAt H23 b X/\SpOK X.sp/\Fr (b.all++blks rB) H22 H23/\ ∀a,x.sp.mem.used a->r.g<x.sp.mem.gAt a->X.sp.mem.used a/\X.sp.mem.gAt a=x.sp.mem.gAt a/\(¬isTag (x.sp.mem.get a)->X.sp.mem.get a=x.sp.mem.get a):=by
    by_cases hst:startE x.sp r.g r.target 1=0
    · obtain⟨rfl,young,fw,al,sz2,tr,s3,s4,s5,W⟩:=hpost.2 hst
      exact⟨_,_,rfl,W.hp,W.col.inv.ok,W.fr,λa h1 h2=>older W.col h1 h2⟩
    · obtain⟨rfl,e23⟩:=hpost.1 hst
      obtain⟨-,hp22,-⟩:=S22.view.inv
      exact⟨_,x,rfl,hp22.ext e23,ok,e23.fr,λa h1 h2=>⟨h1,rfl,λ_=>rfl⟩⟩
  clear hpost
  obtain⟨f,X,rfl,hpX,okX,f23,hold⟩:=key
  refine⟨_,rfl,?_⟩
  have hcn:c ∉ b.all++blks rB:=λq=>by
    rcases List.mem_append.1 q with q | q
    · have:=G.st.blt c q;omega
    · have:=hrb c q;have:=lt_size g5;omega
  have hbn:bm ∉ b.all++blks rB:=λq=>by
    rcases List.mem_append.1 q with q | q
    · have:=S5.blt bm q;omega
    · have:=hrb bm q
      obtain⟨es,cl,ks,o1,_⟩:=O8
      have:=lt_size o1;omega
  have g23:=f23.get hcn (e22.get g21)
  have E23:Ext H H23:=S22.e.fr_trans f23 (λj hj=>by
    rcases List.mem_append.1 hj with q | q
    · exact S5.hb j q
    · exact(hrbn j q).1)
  obtain⟨es,cl,ks,o1,o2,o3,o4⟩:=(O8.fr (S:=[]) (e21.trans e22).fr (by simp)).fr f23 hbn
  refine⟨es,cl,o1,λit H24 hit hH24=>?_⟩
  have e24:Ext H23 H24:=Ext.push' hH24
  refine⟨λA=>Ext H23 A/\ ∃seen,A[it]?=some (.mapIter (some bm) cl seen cl),λA=>toCome es it A,⟨e24,_,push_get hit hH24⟩,?_⟩
  rintro H25 ⟨e25,seen,hit25⟩
  refine⟨bm,es,cl,seen,hit25,e25.get o1,o3,λen H26 hen hns hH26=>?_,awake (E23.trans e25)⟩
  have f26:Fr [it] H25 H26:=by rw[hH26];exact Fr.set
  have e26:Ext H23 H26:=e25.fr_trans f26 (λj hj=>by simp at hj;omega)
  have hit26:H26[it]?=some (.mapIter (some bm) cl (seen.push en.born) cl):=by rw[hH26];exact setBlk_get (lt_size hit25)
  refine⟨bm,es,cl,_,en.born,ks,hit26,e26.get o1,by simp,⟨en,hen,rfl⟩,o2,λkey val hkv=>?_⟩
  obtain⟨p1,p2,p3⟩:=o4 _ hkv
  obtain⟨u1,u2,u3⟩:=hold key p2 p3
  have hwd:IsWord (x.sp.mem.get key):=(ok.mem.seg _).words _
  have hp26:=hpX.ext e26
  refine⟨x.sp.mem.get key,p1,_,hp26.hPtr,_,rfl,_,hp26.cd.cPtr,_,rfl,_,hp26.cd.sp.memPtr,?_⟩
  have hk0:=p2.1
  have hk1:=p2.2.1.2.1
  refine HC.mono (read_wC hp26.cd.sp.mem okX.mem (by omega)) ?_
  rintro _ H27 ⟨rfl,rfl⟩
  refine⟨_,_,rfl,_,hp26.hPtr,?_⟩
  rw[at_word (by omega)]
  refine HC.mono (card_Gen_c hp26.cd (show IsWord (key*8+1)from⟨by omega,by omega⟩)) ?_
  rintro _ H28 ⟨rfl,e28⟩
  have e2328:=e26.trans e28
  have hgen:X.sp.mem.genOf (key*8+1)=(x.sp.mem.gAt key,true):=by
    rw[genOf_old ⟨by omega,by omega⟩ (by omega) (by rw[show(key*8+1) / 8=key by omega];exact u1.2.1),show(key*8+1) / 8=key by omega,u2]
  refine⟨_,_,by rw[hgen],?_⟩
  rw[if_pos (if_pos u1),if_pos rfl]
  refine⟨r.g,by rw[box_get (e2328.get g23) 3];rfl,?_⟩
  rw[if_neg (by
    rw[Bool.and_eq_true,decide_eq_true_eq]
    rintro⟨q,_⟩
    exact absurd q (Int.not_le.2 p3))]
  have hrd:X.sp.mem.read key=X.sp.mem.get key:=by unfold Mem.read;rw[if_pos u1]
  rw[if_neg (by
    rw[Bool.and_eq_true,Bool.not_eq_true',bne_iff_ne,and7o hwd,hrd]
    rintro⟨q1,q2⟩
    refine q2 (u3 (λht=>?_))
    rw[Bool.or_eq_false_iff,Bool.or_eq_false_iff,beq_eq_false_iff_ne,beq_eq_false_iff_ne,beq_eq_false_iff_ne]at q1
    unfold isTag at ht
    have k1:=q1.1.1
    have k2:=q1.1.2
    have k3:=q1.2
    rcases ht with t | t | t
    · exact k1 t
    · exact k2 t
    · exact k3 t)]
  exact⟨⟨e2328,_,e28.get hit26⟩,toCome_lt hit25 hen hns (e28.get hit26)⟩

set_option maxRecDepth 100000 in
theorem lifted(os:Os)(started:os.Started)(H:Type)(enc:TypeId×Value->H):
    ReturnsInHanded {} Tryz.checked os 7 .any (Rows.gcOlderSpec.pre6 enc Tryz.prog Tryz.f7 Rows.gcOlderRow.domain false) (Rows.gcOlderSpec.post enc Tryz.prog Tryz.f7 false true false false):=by
  refine law_lifted (tb:=4) started (by kernel_rfl) Tryz.func7
    (ChangeSpec.witness6 (enc:=enc) (C:=Tryz.checked) false ⟨#[],#[.int .i64 0,.slice none 0 0],[]⟩ 8 (by kernel_rfl) (by kernel_rfl) (by kernel_rfl) (by kernel_rfl))
    rfl (by kernel_rfl) rfl Tryz.underlying4 (λds hds=>?_) ?_
  · match ds,hds with
    | [d0,d1],_=>rfl
  intro W base args ds p hval hA _
  rw[Tryz.params7]at hA hval
  obtain⟨v0,vs0,d0,ds0,p0,q0,hargs,rfl,rfl,h0,r0⟩:=trodAll_cons hA
  obtain⟨v1,vs1,d1,ds1,p1,q1,rfl,rfl,rfl,h1,r1⟩:=trodAll_cons r0
  obtain⟨rfl,rfl,rfl⟩:=trodAll_nil r1
  obtain rfl:args= #[v0,v1]:=by cases args;simp_all
  obtain⟨a0,rfl,rfl,rfl,w0⟩:=open_int Tryz.underlying3 (hval 0 3 v0 rfl rfl) h0
  obtain⟨s1,rfl,w1⟩:=open_read Tryz.underlying47 (by kernel_rfl) reads_RoundOf (B:=maxLen) (.inl rfl) (hval 1 47 v1 rfl rfl) h1
  exact law a0 s1 W.heap (wf_i64 w0) w1

theorem over:Rows.gcOlderRow.holds Tryz.pinned (OpenSpec.ofChange Rows.gcOlderSpec):=
  OpenClaim.holds_of_wide 7 Tryz.f7 rfl rfl rfl rfl rfl rfl rfl ⟨rfl,rfl,rfl,rfl,rfl⟩ rfl rfl rfl rfl rfl (by kernel_rfl) Tryz.func7 (by kernel_rfl)
    (of_decide_eq_true (by kernel_rfl)) (by unfold Func.isWrapper;first | (rw[if_pos (by decide+kernel)];kernel_rfl) | (rw[if_neg (by decide+kernel)];exact⟨rfl,rfl⟩))
    (λos started H enc _=>lifted os started H enc)

theorem proved:Rows.GcOlderSaid:=
  over
#print axioms proved
end Go.Proofs.YtgnokbjknicahaaGreat.gcOlder
