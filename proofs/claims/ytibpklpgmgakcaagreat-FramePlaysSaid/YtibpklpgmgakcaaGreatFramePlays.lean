/- The law FramePlays of morainelaw20 holds: called with any arguments it answers true and leaves what it was handed as it was. No condition. -/
import Derived.Test.YtibpklpgmgakcaaGreatPlays20d
import Derived.Test.YtibpklpgmgakcaaGreatL20FramePlays
import Derived.Test.YtibpklpgmgakcaaGreatRead
set_option linter.unusedVariables false
set_option linter.unusedSimpArgs false
namespace Go.Proofs.YtibpklpgmgakcaaGreat.framePlays
open Go Go.Proofs.YtibpklpgmgakcaaGreat
open Go.ChangeShapes Go.WideShapes Go.ChangeAt Go.RowKit

theorem many20_c{H:Array Obj}{s:Sl ActOf}(A:SlOK 9 actOfR maxLen H s):morainelaw20_many.C s.p s.n s.c H (λv H'=>H'=H/\ ∃x:Bool,v=.bool x/\(x=false->s.n<=200/\ ∀a∈s.xs,a.l.n<=100)):=by
 refine HC.via λR hR=>morainelaw20_many.link ?_
 unfold morainelaw20_many.pt
 by_cases h2:(s.n:Int)>200
 ·rw[if_pos h2];exact hR _ _ ⟨rfl,true,rfl,λh=>by cases h⟩
 rw[if_neg h2]
 have hlen:=A.len
 refine⟨λi H'=>H'=H/\(0<=i/\i<=s.n)/\ ∀(j:Nat) (hj:j<s.xs.length),(j:Int)<i->s.xs[j].l.n<=100,λi _=>(s.n-i).toNat,⟨rfl,by omega,λj _ h=>by omega⟩,?_⟩
 rintro i H1 ⟨rfl,hi,hall⟩
 by_cases hlt:i< (s.n:Int)
 case neg=>
  rw[if_neg hlt]
  refine hR _ _ ⟨rfl,false,rfl,λ_=>⟨by omega,λa ha=>?_⟩⟩
  obtain⟨j,hj,rfl⟩:=List.getElem_of_mem ha
  exact hall j hj (by omega)
 rw[if_pos hlt]
 have hiN:i.toNat<s.xs.length:=by omega
 obtain⟨a,ha,hrow⟩:=A.row i.toNat hiN
 have rd:=λj v=>rowAt_hat hrow j v
 simp only[Nat.zero_add]at rd
 refine⟨a,ha,⟨hi.1,hlt⟩,_,_,_,rd 8 _ rfl,?_⟩
 by_cases c1:(s.xs[i.toNat].l.n:Int)>100
 ·rw[if_pos c1];exact hR _ _ ⟨rfl,true,rfl,λh=>by cases h⟩
 rw[if_neg c1,w64 (n:=i+1) (by omega)]
 refine⟨⟨rfl,by omega,λj hj h=>?_⟩,by show((s.n:Int)-(i+1)).toNat< ((s.n:Int)-i).toNat;omega⟩
 by_cases e:(j:Int)<i
 ·exact hall j hj e
 ·have:j=i.toNat:=by omega
  subst this;omega

set_option maxRecDepth 100000 in
theorem law(limit:Int)(s:Sl ActOf)(H:Array Obj)(hl:I64 limit)(A:SlOK 9 actOfR maxLen H s):
  morainelaw20_FramePlays.C limit s.p s.n s.c H (λv H'=>v=.bool true/\Ext H H'):=by
 refine HC.via λR hR=>morainelaw20_FramePlays.link ?_
 unfold morainelaw20_FramePlays.pt
 refine HC.mono (many20_c A) ?_
 rintro _ H1 ⟨hH1,m,rfl,hm⟩
 subst hH1
 refine⟨_,rfl,?_⟩
 cases m with
 | true=>
  rw[if_pos rfl]
  refine HC.mono awake20_c ?_
  rintro _ H2 ⟨rfl,e2⟩
  exact⟨_,rfl,hR _ _ ⟨rfl,e2⟩⟩
 | false=>
 rw[if_neg (by decide)]
 obtain⟨hn200,hl100⟩:=hm rfl
 have hlen:=A.len
 refine HC.mono (obj_New_c hl) ?_
 rintro _ H3 (⟨hc,rfl,e3⟩ | ⟨hc,b,x,rfl,V3,hx,e3,hy3⟩)
 ·refine⟨_,_,rfl,?_⟩
  refine HC.mono (ref10_New_c hl) ?_
  rintro _ H4 ⟨hd,e4⟩
  rcases hd with⟨_,rfl⟩ | ⟨hc2,_⟩
  case inr=>exact absurd hc2 hc
  refine⟨_,rfl,?_⟩
  rw[if_neg (by decide)]
  refine⟨λbv A=>bv=true/\Ext H1 A,?_,?_⟩
  ·rw[onPtr_none,if_pos (by decide)]
   refine HC.mono awake20_c ?_
   rintro _ H6 ⟨rfl,e6⟩
   exact⟨_,rfl,rfl,e3.trans (e4.trans e6)⟩
  ·rintro bv A2 ⟨rfl,e⟩
   exact hR _ _ ⟨rfl,e⟩
 refine⟨_,_,rfl,?_⟩
 refine HC.mono (ref10_New_c hl) ?_
 rintro _ H4 ⟨hd,e4⟩
 rcases hd with⟨hc2,_⟩ | ⟨_,q,r,rfl,D,hyq⟩
 ·exact absurd hc hc2
 refine⟨_,rfl,?_⟩
 rw[if_pos rfl,onPtr_some]
 obtain⟨_,hAt,okS⟩:=V3.inv
 have hbl: ∀i∈b.all,i<H3.size:=λi hi=>hAt.lt i hi
 have B0:Both H1 H4 b x q r:=⟨⟨hAt.ext e4,okS,e3.trans e4,hy3⟩,by subst hx;exact D,λi hi hb=>by have:=hyq i hi;have:=hbl i hb;omega,λi hi=>by have:=hyq i hi;have:=e3.size;omega⟩
 have hcnt0:x.sp.mem.count=0:=by subst hx;rfl
 refine⟨λB n c i A2=> ∃x r mw,Both H1 A2 b x q r/\MadeAt H1 A2 b q r B n c mw/\(0<=i/\i<=s.n)/\(mw.length:Int)<=i/\x.sp.mem.count<=i,λ_ _ _ i _=>(s.n-i).toNat,⟨x,r,[],B0,⟨own_nil,by simp,by simp⟩,by omega,by simp,by omega⟩,?_⟩
 rintro mB mN mC i H7 ⟨x7,r7,mw,B7,M7,hi,hmw,hcn7⟩
 by_cases hlt:i< (s.n:Int)
 ·rw[if_pos hlt]
  have hiN:i.toNat<s.xs.length:=by omega
  obtain⟨a,ha,hrow⟩:=A.row i.toNat hiN
  refine⟨a,ha,⟨hi.1,hlt⟩,_,_,_,_,_,_,_,_,_,_,_,B7.live.ext.rowAt hrow,?_⟩
  have hmem:=List.getElem_mem hiN
  refine HC.mono (does20_c B7 M7 (A.each _ hmem) (hl100 _ hmem) (by omega) (by omega)) ?_
  rintro _ H8 ⟨p',n',c',x',r',mw',rfl,B',M',hle,hcn⟩
  refine⟨_,_,_,_,rfl,?_⟩
  rw[if_pos rfl,w64 (n:=i+1) (by omega)]
  exact⟨⟨x',r',mw',B',M',by omega,by omega,by omega⟩,by show((s.n:Int)-(i+1)).toNat< ((s.n:Int)-i).toNat;omega⟩
 rw[if_neg hlt]
 have hmN:=M7.len
 refine⟨λj A2=>(0<=j/\j<=mN)/\Ext H7 A2,λj _=>(mN-j).toNat,⟨by omega,Ext.refl _⟩,?_⟩
 rintro j H9 ⟨hj,e9⟩
 by_cases hlj:j< (mN:Int)
 ·rw[if_pos hlj]
  have hjN:j.toNat<mw.length:=by omega
  obtain⟨a,ha,hat1⟩:=(M7.own.ext e9).at (j:=j.toNat) (v:=.int .u64 (mw[j.toNat])) (by simp[wvs,hjN])
  refine⟨a,ha,⟨hj.1,hlj⟩,_,by rw[Nat.mul_one];exact hat1,?_⟩
  have B9:=B7.grow e9
  refine HC.mono (tells20_c B9.live.view B9.doc (M7.words _ (List.getElem_mem hjN)) (by rw[tmod_pos hj.1];constructor<;>omega)) ?_
  rintro _ H10 ⟨rfl,e10⟩
  refine⟨_,rfl,?_⟩
  rw[if_pos rfl,w64 (n:=j+1) (by omega)]
  exact⟨⟨by omega,e9.trans e10⟩,by show((mN:Int)-(j+1)).toNat< ((mN:Int)-j).toNat;omega⟩
 rw[if_neg hlj]
 refine HC.mono (alike_c (B7.grow e9)) ?_
 rintro _ H11 ⟨rfl,e11⟩
 refine⟨_,rfl,?_⟩
 rw[if_pos rfl]
 refine HC.mono awake20_c ?_
 rintro _ H12 ⟨rfl,e12⟩
 exact⟨_,rfl,hR _ _ ⟨rfl,B7.live.ext.trans (e9.trans (e11.trans e12))⟩⟩

set_option maxRecDepth 100000 in
theorem lifted(os:Os)(started:os.Started)(H:Type)(enc:TypeId×Value->H):
  ReturnsInHanded {} Tryz.checked os 3 .any (Rows.framePlaysSpec.pre6 enc Tryz.prog Tryz.f3 Rows.framePlaysRow.domain false) (Rows.framePlaysSpec.post enc Tryz.prog Tryz.f3 false true false false):=by
 refine law_lifted (tb:=4) started (by kernel_rfl) Tryz.func3
  (ChangeSpec.witness6 (enc:=enc) (C:=Tryz.checked) false ⟨#[],#[.int .i64 0,.slice none 0 0],[]⟩ 8 (by kernel_rfl) (by kernel_rfl) (by kernel_rfl) (by kernel_rfl))
  rfl (by kernel_rfl) rfl Tryz.underlying4 (λds hds=>?_) ?_
 ·match ds,hds with
  | [d0,d1],_=>rfl
 intro W base args ds p hval hA _
 rw[Tryz.params3]at hA hval
 obtain⟨v0,vs0,d0,ds0,p0,q0,hargs,rfl,rfl,h0,r0⟩:=trodAll_cons hA
 obtain⟨v1,vs1,d1,ds1,p1,q1,rfl,rfl,rfl,h1,r1⟩:=trodAll_cons r0
 obtain⟨rfl,rfl,rfl⟩:=trodAll_nil r1
 obtain rfl:args= #[v0,v1]:=by cases args;simp_all
 obtain⟨a0,rfl,rfl,rfl,w0⟩:=open_int Tryz.underlying3 (hval 0 3 v0 rfl rfl) h0
 obtain⟨s1,rfl,w1⟩:=open_read Tryz.underlying22 (by kernel_rfl) reads_ActOf (B:=maxLen) (.inl rfl) (hval 1 22 v1 rfl rfl) h1
 exact law a0 s1 W.heap (wf_i64 w0) w1

theorem over:Rows.framePlaysRow.holds Tryz.pinned (OpenSpec.ofChange Rows.framePlaysSpec):=
 OpenClaim.holds_of_wide 3 Tryz.f3 rfl rfl rfl rfl rfl rfl rfl ⟨rfl,rfl,rfl,rfl,rfl⟩ rfl rfl rfl rfl rfl (by kernel_rfl) Tryz.func3 (by kernel_rfl)
  (of_decide_eq_true (by kernel_rfl)) (by unfold Func.isWrapper;first | (rw[if_pos (by decide+kernel)];kernel_rfl) | (rw[if_neg (by decide+kernel)];exact⟨rfl,rfl⟩))
  (λos started H enc _=>lifted os started H enc)

theorem proved:Rows.FramePlaysSaid:=
 over
#print axioms proved
end Go.Proofs.YtibpklpgmgakcaaGreat.framePlays
