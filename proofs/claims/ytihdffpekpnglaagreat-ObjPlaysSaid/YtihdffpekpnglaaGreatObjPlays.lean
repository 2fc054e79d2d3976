/- The law ObjPlays of morainelaw10 holds: called with any arguments it answers true and leaves what it was handed as it was. No condition. -/
import Derived.Test.YtihdffpekpnglaaGreatObE
import Derived.Test.YtihdffpekpnglaaGreatL10ObjPlays
set_option linter.unusedVariables false
set_option linter.unusedSimpArgs false
namespace Go.Proofs.YtihdffpekpnglaaGreat.objPlays
open Go Go.Proofs.YtihdffpekpnglaaGreat
open Go.ChangeShapes Go.WideShapes Go.ChangeAt Go.RowKit

set_option maxRecDepth 100000 in
set_option maxHeartbeats 2000000 in
theorem law(limit:Int)(s:Sl kH)(H:zW)(hl:I64 limit)(A:SlOK 12 ow maxLen H s):
  dJ.C limit s.p s.n s.c H (λv H'=>v=.bool true/\Ext H H'):=by
 refine HC.via λR hR=>dJ.link ?_
 unfold dJ.pt zq
 have one: ∀{A:zW} {a:Addr} {v:Value},hat A a=some v->aG A a 0 [v]:=λh=>⟨by rw[js];exact h,trivial⟩
 refine HC.mono (sn A) ?_
 rintro _ H1 ⟨hH1,m,rfl,hm⟩
 obtain rfl:H=H1:=hH1.symm
 refine⟨_,rfl,?_⟩
 cases m with
 | true=>
  rw[if_pos rfl]
  refine HC.mono lT ?_
  rintro _ H2 ⟨rfl,e2⟩
  exact⟨_,rfl,hR _ _ ⟨rfl,e2⟩⟩
 | false=>
 rw[if_neg (by decide)]
 obtain⟨hn200,hall⟩:=hm rfl
 have hlen:=A.len
 refine HC.mono (nM hl) ?_
 rintro _ H3 (⟨hc,rfl,e3⟩ | ⟨hc,b0,x0,rfl,V3,hx,e3,hy3⟩)
 ·refine⟨_,_,rfl,?_⟩
  refine HC.mono (l6 hl) ?_
  rintro _ H4 ⟨hd,e4⟩
  rcases hd with⟨_,rfl⟩ | ⟨hc2,_⟩
  case inr=>exact absurd hc2 hc
  refine⟨_,rfl,?_⟩
  rw[onPtr_none]
  refine⟨λbv A=>bv=true/\Ext H A,?_,?_⟩
  ·rw[onPtr_none,if_pos rfl]
   refine HC.mono lT ?_
   rintro _ H6 ⟨rfl,e6⟩
   exact⟨_,rfl,rfl,e3.trans (e4.trans e6)⟩
  ·rintro bv A2 ⟨rfl,e⟩
   exact hR _ _ ⟨rfl,e⟩
 refine⟨_,_,rfl,?_⟩
 refine HC.mono (l6 hl) ?_
 rintro _ H4 ⟨hd,e4⟩
 rcases hd with⟨hc2,_⟩ | ⟨_,q,r0,rfl,D,hyq⟩
 ·exact absurd hc hc2
 refine⟨_,rfl,?_⟩
 rw[onPtr_some,onPtr_some,if_pos rfl]
 obtain⟨_,hAt,okS⟩:=V3.inv
 have hbl: ∀i∈b0.all,i<H3.size:=λi hi=>hAt.lt i hi
 have B0:Both H H4 b0 x0 q r0:=⟨⟨hAt.ext e4,okS,e3.trans e4,hy3⟩,by subst hx;exact D,λi hi hb=>by have:=hyq i hi;have:=hbl i hb;omega,λi hi=>by have:=hyq i hi;have:=e3.size;omega⟩
 have hcnt0:x0.sp.mem.count=0:=by subst hx;rfl
 refine⟨λhv B n c i A2=> ∃b x r mw,hv=some ⟨b.h,0,none⟩/\Both H A2 b x q r/\iC H A2 b q r B n c mw/\(0<=i/\i<=s.n)/\(mw.length:Int)<=i/\x.sp.mem.count<=i/\x.sy=.slice none 0 0/\x.en=.slice none 0 0,λ_ _ _ _ i _=>(s.n-i).toNat,⟨b0,x0,r0,[],rfl,B0,⟨gH,by simp,by simp⟩,by omega,by simp,by omega,by subst hx;rfl,by subst hx;rfl⟩,?_⟩
 clear B0 hcnt0 hbl hAt okS V3 hx hy3 D hyq e3 e4
 rintro _ mB mN mC i H7 ⟨b,x,r,mw,rfl,B7,M7,hi,hmw,hcn7,hsy,hen⟩
 by_cases hlt:i< (s.n:Int)
 ·rw[if_pos hlt]
  have hiN:i.toNat<s.xs.length:=by omega
  obtain⟨a,ha,hrow⟩:=A.row i.toNat hiN
  have hmem:=List.getElem_mem hiN
  have hrow7:=B7.live.ext.rowAt hrow
  obtain⟨hq1,hq2,hq3⟩:=hall _ hmem
  have hdo:hat H7 (a.add (i.toNat*12))=some (.int .i64 s.xs[i.toNat].dov):=by
   have:=gZ hrow7 0 _ rfl
   rw[Nat.zero_add,js]at this
   exact this
  refine⟨a,ha,⟨hi.1,hlt⟩,_,hdo,?_⟩
  by_cases h10:s.xs[i.toNat].dov=10
  ·rw[if_pos h10]
   refine HC.mono (ox B7.live.at' B7.live.ok hsy hen) ?_
   rintro _ H8 ⟨b',rfl,C8,hb',e8⟩
   refine⟨_,rfl,?_⟩
   have B8:=B7.grow e8
   refine HC.mono (lc B8.live.view (by decide) (by decide) (show x.sp.mem.count<_ by omega)) ?_
   rintro _ H9 ⟨rfl,V9,f9⟩
   refine⟨_,_,rfl,?_⟩
   refine HC.mono (mW V9) ?_
   rintro _ H10 ⟨V10,f10⟩
   rw[onPtr_some]
   have f10':Fr [b.h] H9 H10:=f10
   have f:Fr b.all H8 H10:=(Live.others f9).trans (f10'.mono (λj hj _=>by simp at hj;simp[Blk.all,hj]))
   have oldLt: ∀j∈b.all,j<H7.size:=λj hj=>B7.live.at'.lt j hj
   have Bc:Both H H10 b' x q r:=⟨⟨C8.keep f (λj hj hj'=>by have:=hb' j hj';have:=oldLt j hj;omega),B7.live.ok,(B7.live.ext.trans e8).fr_trans f (λj hj=>B7.live.young j hj),λj hj=>by have:=hb' j hj;have:=B7.live.ext.size;omega⟩,(B7.doc.ext e8).keep f B7.apart,λj hj hj'=>by have:=hb' j hj';have:=B7.doc.lt j hj;omega,B7.young⟩
   have Mc:iC H H10 b' q r mB mN mC mw:=⟨(M7.own.ext e8).keep f (λj hj hj'=>(M7.apart j hj).2.1 hj'),M7.words,λj hj=>⟨(M7.apart j hj).1,λhj'=>by have:=hb' j hj';have:=M7.own.lt j hj;omega,(M7.apart j hj).2.2⟩⟩
   refine⟨⟨hi.1,hlt⟩,_,_,_,_,_,_,_,_,_,_,_,_,_,_,_,_,Bc.live.ext.rowAt hrow,?_⟩
   refine HC.mono (pN Bc Mc (A.each _ hmem) hq1 hq2 hq3 (by omega) (by omega)) ?_
   rintro _ H11 ⟨p',n',c',x',r',mw',rfl,B',M',hle,⟨hs',hn'⟩,hcn⟩
   refine⟨_,_,_,_,rfl,?_⟩
   rw[if_pos rfl,w64 (n:=i+1) (by omega)]
   exact⟨⟨b',x',r',mw',rfl,B',M',by omega,by omega,by omega,hs'.trans hsy,hn'.trans hen⟩,by show((s.n:Int)-(i+1)).toNat< ((s.n:Int)-i).toNat;omega⟩
  rw[if_neg h10]
  refine⟨⟨hi.1,hlt⟩,_,_,_,_,_,_,_,_,_,_,_,_,_,_,_,_,hrow7,?_⟩
  refine HC.mono (pN B7 M7 (A.each _ hmem) hq1 hq2 hq3 (by omega) (by omega)) ?_
  rintro _ H11 ⟨p',n',c',x',r',mw',rfl,B',M',hle,⟨hs',hn'⟩,hcn⟩
  refine⟨_,_,_,_,rfl,?_⟩
  rw[if_pos rfl,w64 (n:=i+1) (by omega)]
  exact⟨⟨b,x',r',mw',rfl,B',M',by omega,by omega,by omega,hs'.trans hsy,hn'.trans hen⟩,by show((s.n:Int)-(i+1)).toNat< ((s.n:Int)-i).toNat;omega⟩
 rw[if_neg hlt]
 have hmN:=M7.len
 refine⟨λj A2=>(0<=j/\j<=mN)/\Ext H7 A2,λj _=>(mN-j).toNat,⟨by omega,Ext.refl _⟩,?_⟩
 rintro j H9 ⟨hj,e9⟩
 have B9:=B7.grow e9
 by_cases hlj:j< (mN:Int)
 ·rw[if_pos hlj]
  have hjN:j.toNat<mw.length:=by omega
  obtain⟨a,ha,hat1⟩:=(M7.own.ext e9).at (j:=j.toNat) (v:=.int .u64 (mw[j.toNat])) (by simp[wvs,hjN])
  have hw:=M7.words _ (List.getElem_mem hjN)
  refine⟨a,ha,⟨hj.1,hlj⟩,_,by rw[Nat.mul_one];exact hat1,⟨hj.1,hlj⟩,_,by rw[Nat.mul_one];exact hat1,?_⟩
  refine HC.mono (kY B9.live.view hw) ?_
  rintro _ H10 ⟨rfl,e10⟩
  refine⟨_,rfl,one (by rw[Nat.mul_one];exact e10.hat hat1),?_⟩
  have B10:=B9.grow e10
  refine HC.mono (nW B10.live.view B10.doc hw (by rw[gP hj.1];constructor<;>omega)) ?_
  rintro _ H11 ⟨rfl,e11⟩
  refine⟨_,rfl,?_⟩
  rw[if_pos rfl,w64 (n:=j+1) (by omega)]
  exact⟨⟨by omega,(e9.trans e10).trans e11⟩,by show((mN:Int)-(j+1)).toNat< ((mN:Int)-j).toNat;omega⟩
 rw[if_neg hlj]
 clear M7 hmN hlj hj hmw hcn7 hsy hen hi hlt e9 B7
 have ok:=B9.live.ok.mem
 have h:=B9.live.at'
 have d:=B9.doc
 refine⟨_,rfl,_,h.hPtr,_,rfl,_,h.cd.cPtr,_,rfl,_,h.cd.sp.memPtr,_,d.hPtr,_,rfl,_,d.cd.cPtr,_,rfl,_,d.cd.sp.mPtr,?_⟩
 refine HC.mono (pA (gs:=[]) h.cd.sp.mem ok rfl rfl (by decide)) ?_
 rintro _ H16 ⟨B1,c1,l,rfl,hT,how1,hnew1,e1⟩
 have hl':=d.cd.sp.mem.takenEq ok hT
 have hfree:=d.cd.sp.mem.freeEq ok hT
 subst hl'
 have d1:=d.ext e1
 refine⟨_,_,_,rfl,one d1.hPtr,one d1.cd.cPtr,one d1.cd.sp.mPtr,?_⟩
 refine HC.mono (nE d1.cd.sp.mem ok) ?_
 rintro _ H17 ⟨B2,c2,rfl,how2,hnew2,e2⟩
 refine⟨_,_,_,rfl,?_⟩
 rw[if_pos rfl]
 have e02:=e1.trans e2
 have h2:=h.ext e02
 have d2:=d.ext e02
 have how1':=how1.ext e2
 have ep2:hat H17 ((Addr.mk q.h 0 none).add 1)=some (.int .u64 x.ep):=by rw[addr_add_mk,aU d2.h];rfl
 refine⟨_,ep2,_,h2.hPtr,_,d2.hPtr,?_⟩
 have B2':=B9.grow e02
 have hlenL:=d.cd.sp.mem.len ok
 have hlim:=ok.lim
 refine HC.mono (nD B2'.live.view) ?_
 rintro _ H18 ⟨rfl,hH18⟩
 obtain rfl:H17=H18:=hH18.symm
 refine⟨_,rfl,one ep2,one h2.hPtr,one d2.hPtr,?_⟩
 rw[if_pos rfl]
 refine⟨_,rfl,_,h2.cd.cPtr,_,rfl,_,h2.cd.sp.memPtr,_,rfl,_,d2.cd.cPtr,_,rfl,_,d2.cd.sp.mPtr,_,rfl,_,d2.cd.sp.mem.limAt,?_⟩
 refine HC.mono (ou h2.cd.sp.mem) ?_
 rintro _ H19 ⟨rfl,hH19⟩
 obtain rfl:H17=H19:=hH19.symm
 refine⟨_,rfl,one d2.cd.sp.mem.limAt,one d2.cd.sp.mPtr,one d2.cd.cPtr,one h2.cd.sp.memPtr,one h2.cd.cPtr,one ep2,one h2.hPtr,one d2.hPtr,?_⟩
 rw[w64 (by omega),if_pos hfree]
 refine⟨λi A=> ∃j:Nat,i=j/\j<=r.L.length/\Ext H17 A,λi _=>(r.L.length-i).toNat,⟨0,rfl,Nat.zero_le _,Ext.refl _⟩,?_⟩
 rintro _ H20 ⟨j,rfl,hj,e5⟩
 by_cases hlt:(j:Int)< (r.L.length:Int)
 case neg=>
  rw[if_neg hlt]
  refine HC.mono lT ?_
  rintro _ H27 ⟨rfl,e27⟩
  exact⟨_,rfl,hR _ _ ⟨rfl,B9.live.ext.trans (e02.trans (e5.trans e27))⟩⟩
 rw[if_pos hlt]
 have hjl:j<r.L.length:=by omega
 have B5:=B2'.grow e5
 have h5:=B5.live.at'
 obtain⟨a1,ha1,hat1⟩:=tj (how1'.ext e5) hjl
 have hkL:r.L[j]∈r.L:=List.getElem_mem hjl
 have hhas:x.sp.mem.has (r.L[j]:Int):=d.cd.sp.mem.has.2 ⟨by omega,by rw[Int.toNat_natCast];exact hkL⟩
 have hget:r.L[j]?=some r.L[j]:=List.getElem?_eq_getElem hjl
 have rest: ∀(A:zW) (bb:Nat) (T:TypeId),Ext H20 A->A[bb]?=some (.cells #[.int .i64 (x.sp.mem.seg r.L[j]).gen,.int .i64 (x.sp.mem.seg r.L[j]).kind,.int .i64 (x.sp.mem.seg r.L[j]).n,.int .i64 ((x.sp.mem.seg r.L[j]).cards 0),.int .i64 ((x.sp.mem.seg r.L[j]).cards 1),.int .i64 ((x.sp.mem.seg r.L[j]).cards 2),.int .i64 ((x.sp.mem.seg r.L[j]).cards 3)] T (0,0))->
   ∃xGen:Int,∃xKind_3:Int,∃xN_5:Int,∃xCardsi0:Int,∃xCardsi1:Int,∃xCardsi2:Int,∃xCardsi3:Int,aG A (Addr.mk bb 0 none) 0 [.int .i64 xGen,.int .i64 xKind_3,.int .i64 xN_5,.int .i64 xCardsi0,.int .i64 xCardsi1,.int .i64 xCardsi2,.int .i64 xCardsi3]/\
   ∃x_31:zY,hat A (Addr.mk q.h 0 none)=some (.pointer x_31)/\
   ∃x31A:Addr,x_31=some x31A/\
   ∃x_32:zY,hat A x31A=some (.pointer x_32)/\
   ∃x32A:Addr,x_32=some x32A/\
   ∃x_33:zY,hat A x32A=some (.pointer x_33)/\
   ∃x33A:Addr,x_33=some x33A/\
   ∃xB_3:zY,∃xN_6:Nat,∃xC_3:Nat,hat A (x33A.add 1)=some (.slice xB_3 xN_6 xC_3)/\
   ∃xB3A:Addr,xB_3=some xB3A/\
   ((0:Int)<=(j:Int)/\(j:Int)< (xN_6:Int))/\
   ∃xGen_2:Int,∃xKind_4:Int,∃xN_7:Int,∃xCardsi0x2:Int,∃xCardsi1x2:Int,∃xCardsi2x2:Int,∃xCardsi3x2:Int,aG A ((xB3A.add (Int.toNat (j:Int)*9)).add 1) 0 [.int .i64 xGen_2,.int .i64 xKind_4,.int .i64 xN_7,.int .i64 xCardsi0x2,.int .i64 xCardsi1x2,.int .i64 xCardsi2x2,.int .i64 xCardsi3x2]/\
   (True)/\
   if xGen=xGen_2/\xKind_3=xKind_4/\xN_5=xN_7/\xCardsi0=xCardsi0x2/\xCardsi1=xCardsi1x2/\xCardsi2=xCardsi2x2/\xCardsi3=xCardsi3x2 then(
    (∃j':Nat,IntKind.wrap .i64 ((j:Int)+1)=j'/\j'<=r.L.length/\Ext H17 A)/\((r.L.length:Int)-IntKind.wrap .i64 ((j:Int)+1)).toNat< ((r.L.length:Int)-(j:Int)).toNat)
   else
   R (.bool false) A:=by
  intro A bb T eA gA
  have dA:=(B5.grow eA).doc
  have hm:=dA.cd.sp.mem
  obtain⟨a,ha,_,_,hkL',hat',hrow⟩:=hm.row hget
  unfold RM.row kB at hrow
  refine⟨_,_,_,_,_,_,_,bQ gA,_,dA.hPtr,_,rfl,_,dA.cd.cPtr,_,rfl,_,dA.cd.sp.mPtr,_,rfl,_,_,_,hm.slAt,a,ha,⟨by omega,by omega⟩,?_⟩
  rw[Int.toNat_natCast]
  refine⟨_,_,_,_,_,_,_,hrow.sub (us:=[.int .i64 (x.sp.mem.seg r.L[j]).gen,.int .i64 (x.sp.mem.seg r.L[j]).kind,.int .i64 (x.sp.mem.seg r.L[j]).n,.int .i64 ((x.sp.mem.seg r.L[j]).cards 0),.int .i64 ((x.sp.mem.seg r.L[j]).cards 1),.int .i64 ((x.sp.mem.seg r.L[j]).cards 2),.int .i64 ((x.sp.mem.seg r.L[j]).cards 3)]) 1 rfl,trivial,?_⟩
  rw[if_pos ⟨rfl,rfl,rfl,rfl,rfl,rfl,rfl⟩,w64 (n:=(j:Int)+1) (by omega)]
  exact⟨⟨j+1,by omega,by omega,e5.trans eA⟩,by omega⟩
 refine⟨_,h5.hPtr,_,rfl,_,h5.cd.cPtr,_,rfl,_,h5.cd.sp.memPtr,a1,ha1,⟨by omega,hlt⟩,_,by rw[Int.toNat_natCast];exact hat1,?_,?_⟩
 ·refine HC.mono (jE h5.cd.sp.mem) ?_
  rintro _ H21 ⟨rfl,e6⟩
  rw[if_pos hhas,zQ hhas,Int.toNat_natCast r.L[j]]
  refine⟨_,_,_,_,_,_,_,_,rfl,?_⟩
  intro bb H22 hb hH22
  obtain⟨p1,p2⟩:=fE (vs:=[.int .i64 (x.sp.mem.seg r.L[j]).gen,.int .i64 (x.sp.mem.seg r.L[j]).kind,.int .i64 (x.sp.mem.seg r.L[j]).n,.int .i64 ((x.sp.mem.seg r.L[j]).cards 0),.int .i64 ((x.sp.mem.seg r.L[j]).cards 1),.int .i64 ((x.sp.mem.seg r.L[j]).cards 2),.int .i64 ((x.sp.mem.seg r.L[j]).cards 3)]) hb hH22 rfl rfl
  refine⟨p1,λH23 hH23=>?_⟩
  obtain⟨g23,e8⟩:=p2 H23 hH23
  rw[if_pos rfl]
  exact rest H23 bb _ (e6.trans e8) g23
 ·intro bb H24 hb hH24
  have e13:Ext H20 H24:=Ext.push' hH24
  have h13:=h5.ext e13
  refine⟨one h13.hPtr,one h13.cd.cPtr,one h13.cd.sp.memPtr,one (by rw[Int.toNat_natCast];exact e13.hat hat1),?_⟩
  refine HC.mono (jE h13.cd.sp.mem) ?_
  rintro _ H25 ⟨rfl,e14⟩
  rw[if_pos hhas,zQ hhas,Int.toNat_natCast r.L[j]]
  refine⟨_,_,_,_,_,_,_,_,rfl,?_⟩
  obtain⟨p1,p2⟩:=iH (vs:=[.int .i64 (x.sp.mem.seg r.L[j]).gen,.int .i64 (x.sp.mem.seg r.L[j]).kind,.int .i64 (x.sp.mem.seg r.L[j]).n,.int .i64 ((x.sp.mem.seg r.L[j]).cards 0),.int .i64 ((x.sp.mem.seg r.L[j]).cards 1),.int .i64 ((x.sp.mem.seg r.L[j]).cards 2),.int .i64 ((x.sp.mem.seg r.L[j]).cards 3)]) (e14.get (aO hb hH24)) rfl rfl
  refine⟨p1,λH26 hH26=>?_⟩
  obtain⟨g26,f26⟩:=p2 H26 hH26
  rw[if_pos rfl]
  exact rest H26 bb _ ((e13.trans e14).fr_trans f26 (λz hz=>by simp at hz;omega)) g26
set_option maxRecDepth 100000 in
theorem lifted(os:Os)(started:os.Started)(H:Type)(enc:TypeId×Value->H):
  ReturnsInHanded {} Tryz.checked os 3 .any (Rows.objPlaysSpec.pre6 enc Tryz.prog Tryz.f3 Rows.objPlaysRow.domain false) (Rows.objPlaysSpec.post enc Tryz.prog Tryz.f3 false true false false):=by
 refine qu (tb:=4) started (by kernel_rfl) Tryz.func3
  (ChangeSpec.witness6 (enc:=enc) (C:=Tryz.checked) false ⟨#[],#[.int .i64 0,.slice none 0 0],[]⟩ 8 (by kernel_rfl) (by kernel_rfl) (by kernel_rfl) (by kernel_rfl))
  rfl (by kernel_rfl) rfl Tryz.underlying4 (λds hds=>?_) ?_
 ·match ds,hds with
  | [d0,d1],_=>rfl
 intro W base args ds p hval hA _
 rw[Tryz.params3]at hA hval
 obtain⟨v0,vs0,d0,ds0,p0,q0,hargs,rfl,rfl,h0,r0⟩:=trodAll_cons hA
 obtain⟨v1,vs1,d1,ds1,p1,q1,rfl,rfl,rfl,h1,r1⟩:=trodAll_cons r0
 obtain⟨rfl,rfl,rfl⟩:=trodAll_nil r1
 obtain rfl:args= #[v0,v1]:=by cases args;simp_all
 obtain⟨a0,rfl,rfl,rfl,w0⟩:=open_int Tryz.underlying3 (hval 0 3 v0 rfl rfl) h0
 obtain⟨s1,rfl,w1⟩:=rm Tryz.underlying22 (by kernel_rfl) pF (B:=maxLen) (.inl rfl) (hval 1 22 v1 rfl rfl) h1
 exact law a0 s1 W.heap (wf_i64 w0) w1

theorem over:Rows.objPlaysRow.holds Tryz.pinned (OpenSpec.ofChange Rows.objPlaysSpec):=
 OpenClaim.holds_of_wide 3 Tryz.f3 rfl rfl rfl rfl rfl rfl rfl ⟨rfl,rfl,rfl,rfl,rfl⟩ rfl rfl rfl rfl rfl (by kernel_rfl) Tryz.func3 (by kernel_rfl)
  (of_decide_eq_true (by kernel_rfl)) (by unfold Func.isWrapper;first | (rw[if_pos (by decide+kernel)];kernel_rfl) | (rw[if_neg (by decide+kernel)];exact⟨rfl,rfl⟩))
  (λos started H enc _=>lifted os started H enc)

theorem proved:Rows.ObjPlaysSaid:=
 over
#print axioms proved
end Go.Proofs.YtihdffpekpnglaaGreat.objPlays
