/-
 The walk of 'awake' of morainelaw10.
-/
import Derived.Test.YtihdffpekpnglaaGreatLiveT
import Derived.Test.YtihdffpekpnglaaGreatAct10
set_option linter.unusedVariables false
set_option linter.unusedSimpArgs false
namespace Go.Proofs.YtihdffpekpnglaaGreat
open Go

theorem lT{H:zW}:cR.C H (λv H'=>v=.bool true/\Ext H H'):=by
 refine HC.via λR hR=>cR.link ?_
 unfold cR.pt
 refine HC.mono (nM (by decide)) ?_
 rintro _ H1 (⟨hn,_⟩ | ⟨_,b,x,rfl,V1,hx,e1,hy⟩)
 ·exact absurd (by decide) hn
 refine⟨_,_,rfl,?_⟩
 rw[if_pos rfl,onPtr_some]
 have L1:Live H H1 b x:=⟨V1.inv.2.1,V1.inv.2.2,e1,hy⟩
 have f1:x.sp.mem.free=8:=by subst hx;rfl
 have c1:x.sp.mem.count=0:=by subst hx;rfl
 have v1:x.sp.mem.Even:=by subst hx;exact qo _
 have hp0:putR (some (b,x)) 0 1 [8,20]=(1,0):=by subst hx;rfl
 clear hx V1
 refine HC.mono (lc L1.view (x:=8) (y:=20) (by decide) (by decide) (show x.sp.mem.count<_ by omega)) ?_
 rintro _ H2 ⟨rfl,V2,fr2⟩
 obtain⟨p,x2,q1,q2,m2⟩:=ri L1 v1 (tag:=1) (a:=8) (d:=20) (.inl rfl) (by decide) (by decide) (by omega)
 have q2':putO (some (b,x)) 0 1 [8,20]=some (b,x2):=q2
 have hp:p=1:=by have q1':putR (some (b,x)) 0 1 [8,20]=(p,0):=q1;rw[hp0]at q1';exact(congrArg Prod.fst q1').symm
 rw[q2']at V2
 have L2:=L1.step V2 fr2
 rw[hp0]
 refine⟨_,_,rfl,?_⟩
 subst hp
 have f2:=m2.made.free
 have c2:=m2.made.count
 refine HC.mono (sa L2 m2.pr) ?_
 rintro _ H3 ⟨rfl,e3⟩
 refine⟨_,_,rfl,?_⟩
 have L3:=L2.grow e3
 refine HC.mono (sc L3 m2.pr) ?_
 rintro _ H4 ⟨rfl,e4⟩
 refine⟨_,_,rfl,?_⟩
 have L4:=L3.grow e4
 refine HC.mono (pv L4 m2.even (by decide) (by decide) (by omega) (by omega)) ?_
 rintro _ H5 ⟨v,x5,rfl,L5,m5,_⟩
 refine⟨_,_,rfl,?_⟩
 have f5:=m5.made.free
 have c5:=m5.made.count
 refine HC.mono (rZ L5 m5.thing (i:=2) (by decide)) ?_
 rintro _ H6 ⟨rfl,e6⟩
 refine⟨_,_,rfl,?_⟩
 have L6:=L5.grow e6
 refine HC.mono (lI (i:=3) L6.view m5.thing.word (by decide)) ?_
 rintro _ H7 ⟨rfl,e7⟩
 refine⟨_,_,rfl,?_⟩
 have L7:=L6.grow e7
 have hm:mof (some (b,x5))=x5.sp.mem:=rfl
 rw[hm,m5.thing.field_out (i:=3) (.inr (by decide))]
 have hr:gi (ByteArray.mk #[97,195,177])=[97,241]:=by rfl
 refine HC.mono (pu (s:=ByteArray.mk #[97,195,177]) L7 m5.even (by rw[hr];decide) (by omega) (by omega)) ?_
 rintro _ H8 ⟨s,x8,rfl,L8,m8,_⟩
 refine⟨_,_,rfl,?_⟩
 refine HC.mono (mX L8.view m8.thing.word) ?_
 rintro _ H9 ⟨rfl,e9⟩
 have hm8:mof (some (b,x8))=x8.sp.mem:=rfl
 rw[hm8,if_pos ⟨m8.thing.obj,m8.thing.typ⟩,m8.thing.words,hr]
 refine⟨_,_,rfl,?_⟩
 rw[if_pos rfl,if_pos rfl,if_pos rfl,if_pos rfl,if_pos rfl,if_pos rfl,if_pos rfl,if_pos (by rfl),if_pos rfl,if_pos rfl,if_pos rfl,if_pos (by rfl),if_pos rfl]
 refine HC.mono (lH (L8.grow e9).view m8.thing.word) ?_
 rintro _ H10 ⟨rfl,e10⟩
 refine⟨_,rfl,hR _ _ ⟨?_,(L8.grow e9).ext.trans e10⟩⟩
 rw[hm8,m8.thing.len,hr];rfl

abbrev Acts(H:zW)(s:Sl kH):Prop:=SlOK 12 ow maxLen H s
theorem sn{H:zW}{s:Sl kH}(A:Acts H s):eK.C s.p s.n s.c H (λv H'=>H'=H/\ ∃x:Bool,v=.bool x/\(x=false->s.n<=200/\ ∀a∈s.xs,a.l.n<=200/\a.s.size<=1000/\a.num.mag.n<=60)):=by
 refine HC.via λR hR=>eK.link ?_
 unfold eK.pt zq
 by_cases h2:(s.n:Int)>200
 ·rw[if_pos h2];exact hR _ _ ⟨rfl,true,rfl,λh=>by cases h⟩
 rw[if_neg h2]
 refine⟨λi H'=>H'=H/\(0<=i/\i<=s.n)/\ ∀(j:Nat) (hj:j<s.xs.length),(j:Int)<i->s.xs[j].l.n<=200/\s.xs[j].s.size<=1000/\s.xs[j].num.mag.n<=60,λi _=>(s.n-i).toNat,⟨rfl,by omega,λj _ h=>by omega⟩,?_⟩
 rintro i H1 ⟨rfl,hi,hall⟩
 have hlen:=A.len
 by_cases hlt:i< (s.n:Int)
 case neg=>
  rw[if_neg hlt]
  refine hR _ _ ⟨rfl,false,rfl,λ_=>⟨by omega,λa ha=>?_⟩⟩
  obtain⟨j,hj,rfl⟩:=List.getElem_of_mem ha
  exact hall j hj (by omega)
 rw[if_pos hlt]
 have hiN:i.toNat<s.xs.length:=by omega
 obtain⟨a,ha,hrow⟩:=A.row i.toNat hiN
 have rd:=λj v=>gZ hrow j v
 simp only[Nat.zero_add]at rd
 refine⟨a,ha,⟨hi.1,hlt⟩,_,_,_,rd 8 _ rfl,?_⟩
 by_cases c1:(s.xs[i.toNat].l.n:Int)>200
 ·rw[if_pos c1];exact hR _ _ ⟨rfl,true,rfl,λh=>by cases h⟩
 rw[if_neg c1]
 refine⟨⟨hi.1,hlt⟩,_,rd 9 _ rfl,?_⟩
 by_cases c2:(s.xs[i.toNat].s.size:Int)>1000
 ·rw[if_pos c2];exact hR _ _ ⟨rfl,true,rfl,λh=>by cases h⟩
 rw[if_neg c2]
 have h11:=rd 11 _ rfl
 have e11:((a.add (i.toNat*12)).add 10).add 1=(a.add (i.toNat*12)).add 11:=fG _ _ _
 refine⟨⟨hi.1,hlt⟩,_,_,_,by rw[e11];exact h11,?_⟩
 by_cases c3:(s.xs[i.toNat].num.mag.n:Int)>60
 ·rw[if_pos c3];exact hR _ _ ⟨rfl,true,rfl,λh=>by cases h⟩
 rw[if_neg c3,w64 (n:=i+1) (by omega)]
 refine⟨⟨rfl,by omega,λj hj hji=>?_⟩,by show((s.n:Int)-(i+1)).toNat< ((s.n:Int)-i).toNat;omega⟩
 by_cases e:j=i.toNat
 ·subst e;exact⟨by omega,by omega,by omega⟩
 ·exact hall j hj (by omega)

def ib(W Of:Int)(mw:List Int):Int:=if 0<Of/\0<mw.length then mw.getD ((Of-1) % mw.length).toNat 0 else W
theorem kq{W Of:Int}{mw:List Int}(hW:aM W)(hm: ∀w∈mw,aM w):aM (ib W Of mw):=by
 unfold ib
 by_cases h:0<Of/\0<mw.length
 ·rw[if_pos h]
  have h2:((Of-1) % mw.length).toNat<mw.length:=by
   have:=Int.emod_nonneg (Of-1) (show(mw.length:Int)≠0 by omega)
   have:=Int.emod_lt_of_pos (Of-1) (show(0:Int)<mw.length by omega)
   omega
  rw[getD_at h2];exact hm _ (List.getElem_mem _)
 ·rw[if_neg h];exact hW
theorem nt{H:zW}{W Of:Int}{p:zY}{n c:Nat}{mw:List Int}(hO:I64 Of)(how:Own H 33 1 p n c (wvs mw)):dC.C W Of p n c H (λv H'=>v=.int .u64 (ib W Of mw)/\Ext H H'):=by
 refine HC.via λR hR=>dC.link ?_
 unfold dC.pt zq
 intro b H1 hb hH1
 have e1:Ext H H1:=Ext.push' hH1
 have g1:=aO hb hH1
 have hn:n=mw.length:=by have:=how.len;simpa[wvs]using this.symm
 subst hn
 refine⟨Of,by rw[addr_add_mk,aU g1];rfl,?_⟩
 by_cases h:0<Of/\0<mw.length
 ·rw[if_pos (by simp only[Bool.and_eq_true,decide_eq_true_eq];omega)]
  have e:Int.tmod (IntKind.wrap .i64 (Of-1)) (mw.length:Int)=(Of-1) % mw.length:=by rw[w64 (by omega),gP (by omega)]
  have h0:=Int.emod_nonneg (Of-1) (show(mw.length:Int)≠0 by omega)
  have h2:=Int.emod_lt_of_pos (Of-1) (show(0:Int)<mw.length by omega)
  have hv:ib W Of mw=mw.getD ((Of-1) % mw.length).toNat 0:=by unfold ib;rw[if_pos h]
  rw[hv]at hR
  have hk:((Of-1) % mw.length).toNat<mw.length:=by omega
  obtain⟨a,ha,hat1⟩:=(how.ext e1).at (j:=((Of-1) % mw.length).toNat) (v:=.int .u64 (mw.getD ((Of-1) % mw.length).toNat 0)) (by rw[getD_at hk];simp[wvs,hk])
  refine⟨Of,by rw[addr_add_mk,aU g1];rfl,by omega,a,ha,by rw[e];exact⟨h0,h2⟩,_,by rw[e,Nat.mul_one];exact hat1,hR _ _ ⟨rfl,e1⟩⟩
 ·rw[if_neg (by simp only[Bool.and_eq_true,decide_eq_true_eq];omega)]
  exact⟨W,by rw[aU g1];rfl,hR _ _ ⟨by unfold ib;rw[if_neg h],e1⟩⟩

theorem rn{H:zW}{s:Sl kF}{p:zY}{n c:Nat}{mw:List Int}(A:SlOK 2 jT maxLen H s)(hs:s.n<=1000)(how:Own H 33 1 p n c (wvs mw)):
  dV.C s.p s.n s.c p n c H (λv H'=> ∃q c',v=.slice q s.n c'/\Own H' 33 1 q s.n c' (wvs (s.xs.map λv=>ib v.w v.ofv mw))/\Ext H H'/\ ∀i,i∈blks q->H.size<=i):=by
 refine HC.via λR hR=>dV.link ?_
 unfold dV.pt zq
 have hlen:=A.len
 refine⟨λq m c' i H'=>(0<=i/\i<=s.n)/\m=i.toNat/\Own H' 33 1 q m c' (wvs ((s.xs.take i.toNat).map λv=>ib v.w v.ofv mw))/\Ext H H'/\ ∀j,j∈blks q->H.size<=j,λ_ _ _ i _=>(s.n-i).toNat,⟨by omega,rfl,by simpa using gH,Ext.refl _,by simp⟩,?_⟩
 rintro q m c' i H1 ⟨hi,rfl,ho,e1,hq⟩
 by_cases hlt:i< (s.n:Int)
 case neg=>
  rw[if_neg hlt]
  have e:i.toNat=s.n:=by omega
  rw[e]at ho⊢
  rw[List.take_of_length_le (by omega)]at ho
  exact hR _ _ ⟨q,c',rfl,ho,e1,hq⟩
 rw[if_pos hlt]
 have hiN:i.toNat<s.xs.length:=by omega
 obtain⟨a,ha,hrow⟩:=A.row i.toNat hiN
 refine⟨a,ha,⟨hi.1,hlt⟩,_,_,e1.rowAt hrow,?_⟩
 refine HC.mono (nt (wf_i64 (A.each _ (List.getElem_mem hiN)).ofv) (how.ext e1)) ?_
 rintro _ H2 ⟨rfl,e2⟩
 refine⟨_,rfl,λb H3 hb hH3=>?_⟩
 have e3:Ext H2 H3:=Ext.push' hH3
 rw[w64 (n:=i+1) (by omega)]
 refine cZ (ys:=wvs [ib s.xs[i.toNat].w s.xs[i.toNat].ofv mw]) ((ho.ext e2).ext e3) (dH (aO hb hH3) _ 0 0 (λj hj=>by simp)) (by simp) (gM _) rfl (by omega) ?_
 intro q' c2 H4 ho4 f4 hn4
 have e14:Ext H H4:=((e1.trans e2).trans e3).fr_trans f4 hq
 refine⟨⟨by omega,by omega,?_,e14,λj hj=>?_⟩,by show((s.n:Int)-(i+1)).toNat< ((s.n:Int)-i).toNat;omega⟩
 ·rw[show(i+1).toNat=i.toNat+1 by omega,List.take_succ_eq_append_getElem hiN,List.map_append]
  simpa[wvs]using ho4
 ·rcases hn4 j hj with h | h
  ·exact hq j h
  ·have:=((e1.trans e2).trans e3).size;omega
theorem pG{H:zW}{hv:zY}{o:Option (Blk×Hp)}{d w v:Int}(V:View H hv o)(hw:aM w)(hv':aM v)(hd:d=6\/d=7):
  dD.C hv d w v H (λu H'=>u=.int .i64 (lr o w (d-6) v)/\View H' hv (kx o w (d-6) v)/\Fr (own o) H H'):=by
 refine HC.via λR hR=>dD.link ?_
 unfold dD.pt
 rcases hd with rfl | rfl
 ·rw[if_pos rfl]
  refine HC.mono (od V hw hv') ?_
  rintro _ H1 ⟨rfl,V1,f1⟩
  exact⟨_,rfl,hR _ _ ⟨rfl,V1,f1⟩⟩
 ·rw[if_neg (by decide)]
  refine HC.mono (oe V hw hv') ?_
  rintro _ H1 ⟨rfl,V1,f1⟩
  exact⟨_,rfl,hR _ _ ⟨rfl,V1,f1⟩⟩
