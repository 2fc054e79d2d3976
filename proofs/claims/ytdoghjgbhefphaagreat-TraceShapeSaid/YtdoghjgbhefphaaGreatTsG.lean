/-
 The law of traces (package morainelaw11): its rounds. Proves nothing of any one statement by itself.
-/
import Derived.Test.YtdoghjgbhefphaaGreatTsE
import Derived.Test.YtdoghjgbhefphaaGreatTsF
import Derived.Test.YtdoghjgbhefphaaGreatWkD
import Derived.Test.YtdoghjgbhefphaaGreatL11TraceShape
set_option linter.unusedVariables false
set_option linter.unusedSimpArgs false
namespace Go.Proofs.YtdoghjgbhefphaaGreat
open Go

set_option maxRecDepth 100000 in
theorem rounds(haw: ∀{H:Array Obj},morainelaw11_awake.C H (λv H'=>v=.bool true/\Ext H H'))(limit:Int)(s:Sl RoundOf)(H:Array Obj)(hl:I64 limit)(A:SlOK 4 roundOfR maxLen H s):
  morainelaw11_TraceShape.C limit s.p s.n s.c H (λv H'=>v=.bool true/\Ext H H'):=by
 refine HC.via λR hR=>morainelaw11_TraceShape.link ?_
 unfold morainelaw11_TraceShape.pt
 refine HC.mono (obj_New_c hl) ?_
 rintro _ H1 (⟨hc,rfl,e1⟩ | ⟨hc,b,x0,rfl,V1,hx,e1,hb1⟩)
 ·refine⟨_,_,rfl,λbv A=>bv=false/\A=H1,?_,?_⟩
  ·rw[if_neg (by decide)];exact⟨rfl,rfl⟩
  rintro bv A2 ⟨rfl,rfl⟩
  rw[if_neg (by decide)]
  refine HC.mono (many11_c (SlOK.ext A e1)) ?_
  rintro _ H3 ⟨t,rfl,ht,rfl⟩
  refine⟨_,rfl,?_⟩
  rw[if_pos (by simp)]
  refine⟨λbv A=>bv=true/\Ext H A,?_,?_⟩
  ·rw[if_neg (by decide),if_pos rfl]
   refine HC.mono haw ?_
   rintro _ H5 ⟨rfl,e5⟩
   exact⟨_,rfl,rfl,e1.trans e5⟩
  ·rintro bv A3 ⟨rfl,e⟩
   exact hR _ _ ⟨rfl,e⟩
 refine⟨_,_,rfl,λbv A=>bv=false/\A=H1,?_,?_⟩
 ·rw[if_pos rfl,onPtr_some];exact⟨rfl,rfl⟩
 rintro bv A2 ⟨rfl,rfl⟩
 rw[if_neg (by decide)]
 refine HC.mono (many11_c (SlOK.ext A e1)) ?_
 rintro _ H3 ⟨t,rfl,hfew,rfl⟩
 refine⟨_,rfl,?_⟩
 cases t with
 | true=>
  rw[if_pos (by simp)]
  refine⟨λbv A=>bv=true/\Ext H A,?_,?_⟩
  ·rw[if_pos rfl]
   refine HC.mono haw ?_
   rintro _ H5 ⟨rfl,e5⟩
   exact⟨_,rfl,rfl,e1.trans e5⟩
  ·rintro bv A3 ⟨rfl,e⟩
   exact hR _ _ ⟨rfl,e⟩
 | false=>
 rw[if_neg (by simp)]
 have hfew:=hfew rfl
 have hlen:=A.len
 have hn12:=hfew.1
 obtain⟨-,hp1,ok1⟩:=V1.inv
 have S0: ∃sz,St H H3 b x0 sz none 0 []/\x0.sp.cf<=1024:=by
  refine⟨λ_=>0,⟨e1,V1,⟨ok1,by rw[hx];exact even_fresh _,?_,?_⟩,own_nil,λw h=>by simp at h,hb1,λj hj=>by simp at hj⟩,?_⟩
  ·refine⟨λa h=>absurd rfl h,λa b h=>absurd rfl h,λa h=>absurd rfl h,λa h=>absurd rfl h,λa h=>?_⟩
   rw[hx]at h
   exact absurd rfl h.2.1.2.2
  ·intro a h
   rw[hx]at h
   exact absurd rfl h.2.1.2.2
  ·rw[hx]
   show(0:Int)+((limit.toNat:Nat):Int)<=1024
   omega
 obtain⟨sz0,S0,hcf0⟩:=S0
 refine⟨λmB mN mC i A'=>(0<=i/\i<=s.n)/\ ∃(made:List Int) (x:Hp) (sz:Int->Nat),mN=made.length/\St H A' b x sz mB mC made/\x.sp.cf<=1024*(i+1)/\(made.length:Int)<=401*i,λ_ _ _ i _=>(s.n-i).toNat,
  ⟨⟨by omega,by omega⟩,[],x0,sz0,rfl,S0,by omega,by simp⟩,?_⟩
 rintro mB mN mC i H7 ⟨hi,made,x,sz,rfl,S,hcf,hml⟩
 by_cases hlt:i< (s.n:Int)
 case neg=>
  rw[if_neg hlt]
  refine HC.mono haw ?_
  rintro _ H5 ⟨rfl,e5⟩
  exact⟨_,rfl,hR _ _ ⟨rfl,S.e.trans e5⟩⟩
 rw[if_pos hlt]
 have hiN:i.toNat<s.xs.length:=by omega
 obtain⟨la,hla,hrow⟩:=A.row i.toNat hiN
 have hrk:RoundOf.OK maxLen H s.xs[i.toNat]:=A.each _ (List.getElem_mem hiN)
 have hfr:=hfew.2 _ (List.getElem_mem hiN)
 generalize s.xs[i.toNat]=r at*
 have hd:((s.n:Int)-(i+1)).toNat< ((s.n:Int)-i).toNat:=by omega
 rw[w64 (n:=i+1) (by omega)]
 refine⟨la,hla,⟨hi.1,hlt⟩,_,_,_,_,_,_,S.e.rowAt hrow,λc H8 hc8 hH8=>?_⟩
 obtain⟨hcp,hs9⟩:=box_set (vs:=[.slice r.acts.p r.acts.n r.acts.c,.int .i64 r.g,.int .i64 r.target,.int .u32 r.keep]) (push_get hc8 hH8) rfl rfl
 refine⟨hcp,λH9 hH9=>?_⟩
 obtain⟨g9,f9⟩:=hs9 H9 hH9
 have e79:Ext H7 H9:=(Ext.push' hH8).fr_trans f9 (λj hj=>by simp at hj;omega)
 have z7:=S.e.size
 have hblt:=S.blt
 have hmlt:=S.own.lt
 have cb:c ∉ b.all/\c ∉ blks mB/\H.size<=c:=⟨λq=>by have:=hblt c q;omega,λq=>by have:=hmlt c q;omega,by omega⟩
 refine acts_loop (S.ext e79) (by omega) rfl (by omega) ⟨g9⟩ cb hrk.acts hfr ?_
 intro H10 mB' mC' made' x' sz' S10 ecf hlen' sl10 cm10
 refine roots_loop S10 (by omega) sl10 ?_
 intro H12 rB rC roots e12 hro hrb hrin hrl
 have hrw: ∀w∈roots,IsWord w/\Good x'.sp.mem sz' w:=λw h=>S10.good w (hrin w h)
 have hrw1: ∀w∈roots,IsWord w:=λw h=>(hrw w h).1
 refine HC.mono (picture_c (S10.view.ext e12) hro.src rfl (by omega) hrw1) ?_
 rintro _ H19 ⟨pB,pN,pC,ks,prb,rfl,hks,hpic,hprb,hpB,e19⟩
 refine⟨_,_,_,rfl,_,(sl10.ext (e12.trans e19)).g,?_⟩
 have e1019:=e12.trans e19
 refine HC.mono (reached_c (S10.view.ext e1019) (hro.ext e19).src rfl (by omega) hrw1) ?_
 rintro _ H20 ⟨all,hall,rfl,e20⟩
 have e1020:=e1019.trans e20
 have sl20:=sl10.ext e1020
 refine⟨_,rfl,_,sl20.g,_,sl20.target,?_⟩
 obtain⟨-,hp20,ok20⟩:=(S10.view.ext e1020).inv
 have I20:=S10.inv
 refine HC.mono (tr_Start_c hp20 ok20 I20.even (by omega) (wf_i64 hrk.g) (wf_i64 hrk.target) (by decide)) ?_
 rintro v21 H21 ⟨hno,hyes⟩
 by_cases hst:startE x'.sp r.g r.target 0=0
 case neg=>
  obtain⟨rfl,e21⟩:=hno hst
  refine⟨_,_,rfl,?_⟩
  rw[if_neg hst]
  have e1021:=e1020.trans e21
  refine⟨λbv A=>bv=false/\Ext H10 A,?_,?_⟩
  ·by_cases h2:startE x'.sp r.g r.target 0=2
   ·rw[if_pos h2]
    obtain⟨-,hp21,ok21⟩:=(S10.view.ext e1021).inv
    refine⟨_,rfl,_,hp21.hPtr,_,rfl,_,hp21.cd.cPtr,_,rfl,_,hp21.cd.sp.memPtr,_,hp21.hPtr,_,rfl,_,hp21.cd.cPtr,_,rfl,_,hp21.cd.sp.memPtr,?_⟩
    refine HC.mono (seg_free_c hp21.cd.sp.mem) ?_
    rintro _ H44 ⟨rfl,rfl⟩
    refine⟨_,rfl,row1 hp21.hPtr,row1 hp21.cd.cPtr,row1 hp21.cd.sp.memPtr,?_⟩
    refine HC.mono (seg_Taken_c (gs:=[]) hp21.cd.sp.mem ok21.mem (by rw[SrcAt_none];rfl) rfl (by decide)) ?_
    rintro _ H45 ⟨tB,tC,l,rfl,hl2,hol,hfl,e45⟩
    have hl3:=hl2.len
    have hlim:=ok21.mem.lim
    have hff:=full_free ok21.mem h2 hl2
    refine⟨_,_,_,rfl,?_,e1021.trans e45⟩
    rw[w64 (n:=2*(l.length:Int)) (by omega),w64 (n:=2*(l.length:Int)+8) (by omega)]
    exact decide_eq_false (by omega)
   ·rw[if_neg h2];exact⟨rfl,e1021⟩
  ·rintro bv A3 ⟨rfl,e⟩
   rw[if_neg (by decide)]
   exact⟨⟨⟨by omega,by omega⟩,made',x',sz',rfl,S10.ext e,by omega,by omega⟩,hd⟩
 obtain⟨q,t,rfl,T21,B,hq,f21⟩:=hyes hst
 refine⟨_,_,rfl,?_⟩
 rw[if_pos rfl]
 have hgr:(0<=r.g/\r.g<4)/\0<=r.target:=by
  unfold startE at hst
  by_cases h1:r.g<0\/4<=r.g\/r.target<r.g\/r.g+1<r.target\/(0:Int)<0
  ·rw[if_pos h1]at hst;exact absurd hst (by decide)
  ·omega
 have hb10:=S10.blt
 have z1020:=e1020.size
 have z12:=e12.size
 have z19:=e19.size
 have z20:=e20.size
 have hspb: ∀j∈spB b,j∈b.all:=λj hj=>spB_all hj
 have clt:=lt_size sl10.at'
 have sl21:=sl20.keep f21 (λh=>cb.1 (hspb c h))
 refine⟨_,sl21.g,?_⟩
 refine above_loop T21.hp T21.ok hgr.1 ?_
 intro H22 e22
 have T22:=T21.grow e22
 have hrnb: ∀j∈blks rB,j ∉ b.all:=λj hj h=>by have:=hrb j hj;have:=hb10 j h;omega
 have hro22:=((hro.ext (e19.trans e20)).keep f21 (λj hj h=>hrnb j hj (hspb j h))).ext e22
 refine visit_loop T22 hro22 hrnb hrw1 (by omega) ?_
 intro H25 yB yC hyo hyb T25 f25
 refine HC.mono (tr_Cards_c T25 (B.cardsOK I20.ok.mem)) ?_
 rintro _ H29 ⟨T29,f29⟩
 refine HC.mono (tr_Drain_c T29 (B.seenOK I20.ok.mem) (by rw[B.tgt];exact hgr.2)) ?_
 rintro _ H30 ⟨s3,ks3,hdr,hdd,T30,hso3,f30⟩
 refine HC.mono (tr_Weaks_c T30 (B.frmOK I20.ok.mem) (B.cardsOK I20.ok.mem)) ?_
 rintro _ H31 ⟨wl,wB,wN,wC,hwl,rfl,hwn,hwo,hwb,hw3,e31⟩
 refine⟨_,_,_,rfl,?_⟩
 have hlt22: ∀j,j∈b.all\/j∈q.all->j<H22.size:=λj hj=>T22.lt hj
 have z25:=f25.size
 have z29:=f29.size
 have z30:=f30.size
 refine weaks_loop (T30.grow e31) hwn hwo (λj hj h=>by have:=hwb j hj;have:=hlt22 j (.inl h);omega) (weaks_le T30.ok.mem (B.frmOK I20.ok.mem) (B.cardsOK I20.ok.mem) hwl) hw3 ?_
 intro H32 T32 f32
 refine HC.mono (tr_End_c T32) ?_
 rintro _ H36 ⟨hp36,htr36,f36⟩
 have B':Begun x'.sp.mem r.g t.tgt t:=by rw[B.tgt];exact B
 have hst':startE x'.sp r.g t.tgt 0=0:=by rw[B.tgt];exact hst
 have RL:=round_law I20 hst' B' hrw hdr hdd hwl
 have sX: ∀j∈spB b,j∈b.all++q.all:=λj hj=>List.mem_append_left _ (hspb j hj)
 have G25:Fr (b.all++q.all) H25 H36:=by
  have a1:Fr (b.all++q.all) H25 H29:=f29.mono (λj hj _=>sX j hj)
  have a2:Fr (b.all++q.all) H29 H30:=f30.mono (λj hj _=>by
   rcases List.mem_cons.1 hj with h | h
   ·rw[h];simp[TB.all]
   ·exact sX j h)
  have a3:Fr (b.all++q.all) H31 H32:=f32.mono (λj hj _=>sX j hj)
  have a4:Fr (b.all++q.all) H32 H36:=f36.mono (λj hj _=>by
   rcases List.mem_cons.1 hj with h | h
   ·rw[h];simp[Blk.all]
   ·rcases List.mem_cons.1 h with h | h
    ·rw[h];simp[TB.all]
    ·exact sX j h)
  exact(((a1.trans a2).trans e31.fr).trans a3).trans a4
 have G20:Fr b.all H20 H36:=by
  have a1:Fr b.all H20 H25:=(f21.mono (λj hj _=>hspb j hj)).trans' ((Ext.fr e22 (S:=[])).trans' f25 (λj hj _=>by simp at hj) (λj hj _=>hspb j hj)) (λj hj _=>hj) (λj hj _=>hj)
  exact a1.trans' G25 (λj hj _=>hj) (λj hj hl=>by
   rcases List.mem_append.1 hj with h | h
   ·exact h
   ·have:=hq j h;omega)
 have E36:Ext H H36:=(S10.e.trans e1020).fr_trans G20 S10.hb
 have sl36:=sl20.keep G20 cb.1
 have hks36:=(hks.ext e20).keep G20 (λj hj=>⟨λh=>by have:=hprb j h;have:=hb10 j hj;omega,λh=>by have:=hpB j h;have:=hb10 j hj;omega⟩)
 have hyn: ∀j∈blks yB,j ∉ b.all/\j ∉ q.all:=λj hj=>⟨λh=>by have:=hlt22 j (.inl h);have:=hyb j hj;omega,λh=>by have:=hlt22 j (.inr h);have:=hyb j hj;omega⟩
 have hyo36:=hyo.keep G25 (λj hj h=>by
  rcases List.mem_append.1 h with h | h
  ·exact(hyn j hj).1 h
  ·exact(hyn j hj).2 h)
 obtain⟨⟨sz5,I5,hy5⟩,cf5,len5,pic5,words5,empty5⟩:=RL
 generalize hyg:((x'.sp.fresh (gensTo r.g)).visL t.old t.tgt roots).2=young at*
 generalize hsg:(({s3 with mem:=(s3.mem.weaks t wl).foldl (brk t.old) s3.mem}:Sp).ended t)=s5 at*
 have hp5:HpAt H36 b {x' with sp:=s5,ep:=IntKind.wrap .u64 (x'.ep+1)}:=by rw[<-hsg];exact hp36
 have V36:View H36 (some ⟨b.h,0,none⟩) (some (b,{x' with sp:=s5,ep:=IntKind.wrap .u64 (x'.ep+1)})):=.real hp5 I5.ok
 have hyw: ∀w∈young,IsWord w:=λw hw=>(hy5 w hw).1
 have hbx:=hall.alls.len
 have hss:=sum_sizes x'.sp.mem all
 refine HC.mono (picture_c V36 hyo36.src rfl (by omega) hyw) ?_
 rintro _ H37 ⟨p2,n2,c2,ks2,rb2,rfl,hks2,hpic2,_,_,e37⟩
 refine⟨_,_,_,rfl,?_⟩
 have hpl:=IsPic.len I5.ok.mem hyw hpic2
 have hn2:=hks2.n
 have hkk:=pic5 ks ks2 hpic hpic2
 refine HC.mono (alike_c hks2 (hks36.ext e37) (by omega)) ?_
 rintro _ H38 ⟨rfl,rfl⟩
 refine⟨_,rfl,?_⟩
 rw[if_pos (decide_eq_true hkk)]
 have hp37:=hp5.ext e37
 refine⟨_,rfl,_,hp37.hPtr,_,rfl,_,hp37.cd.cPtr,?_⟩
 refine HC.mono (space_Words_c (gs:=[]) hp37.cd.sp I5.ok (by rw[SrcAt_none];rfl) rfl (by decide)) ?_
 rintro _ H39 ⟨rfl,e39⟩
 refine⟨_,rfl,?_⟩
 have hab:x'.sp.mem.above r.g<=65536:=by
  unfold Mem.above Mem.cnt
  refine Nat.le_trans List.countP_le_length ?_
  rw[List.length_range,tops_eq];exact Nat.le_refl _
 have hmem21:({x' with sp:=x'.sp.fresh (gensTo r.g)}:Hp).sp.mem=x'.sp.mem:=rfl
 rw[hmem21,w64 (by omega),if_pos (words5 all hall)]
 refine check_loop (hp37.ext e39) I5.ok (sl36.ext (e37.trans e39)) hgr.1 (λk hk hkt=>empty5 k hk (by rw[B.tgt];exact hkt)) ?_
 intro H40 e40
 have e3640:=(e37.trans e39).trans e40
 refine⟨⟨⟨by omega,by omega⟩,young,_,sz5,rfl,⟨E36.trans e3640,V36.ext e3640,I5,hyo36.ext e3640,hy5,S10.hb,λj hj=>⟨?_,(hyn j hj).1⟩⟩,?_,by omega⟩,hd⟩
 ·have:=hyb j hj
  have:=f21.size
  have:=e22.size
  have:=S10.e.size
  omega
 ·show s5.cf<=1024*(i+1+1)
  omega
end Go.Proofs.YtdoghjgbhefphaaGreat
