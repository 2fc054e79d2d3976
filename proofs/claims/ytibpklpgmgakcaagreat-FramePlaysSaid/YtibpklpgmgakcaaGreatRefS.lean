/-
 The document's space and cards (moraineref08, moraineref09), told by the same abstract memory as the program's. Proves nothing of any one statement.
-/
import Derived.Test.YtibpklpgmgakcaaGreatRefM
import Derived.Test.YtibpklpgmgakcaaGreatRef01
import Derived.Test.YtibpklpgmgakcaaGreatFref08
import Derived.Test.YtibpklpgmgakcaaGreatFref09
import Derived.Test.YtibpklpgmgakcaaGreatThing
set_option linter.unusedVariables false
set_option linter.unusedSimpArgs false
namespace Go.Proofs.YtibpklpgmgakcaaGreat
open Go

theorem addr_z(a:Addr):a.add 0=a:=by simp[Addr.add]
theorem ref08_May_c{H:Array Obj}{gen kind n:Int}:moraineref08_May.C gen kind n H (λv H'=>v=.bool (decide (may gen kind n))/\H'=H):=by
 refine HC.via λR hR=>moraineref08_May.link ?_
 unfold moraineref08_May.pt
 by_cases hc:gen<0\/4<gen\/kind<0\/3<kind
 ·rw[if_pos (by simp only[Bool.or_eq_true,decide_eq_true_eq];omega)]
  exact hR _ _ ⟨by rw[decide_eq_false (λh=>by have:=h.1;have:=h.2;omega)],rfl⟩
 rw[if_neg (by simp only[Bool.or_eq_true,decide_eq_true_eq];omega)]
 by_cases h2:kind<2
 ·rw[if_pos h2]
  refine hR _ _ ⟨?_,rfl⟩
  congr 1
  rw[Bool.eq_iff_iff,beq_iff_eq,decide_eq_true_iff]
  unfold may;omega
 ·rw[if_neg h2]
  refine hR _ _ ⟨?_,rfl⟩
  congr 1
  rw[Bool.eq_iff_iff,Bool.and_eq_true,decide_eq_true_iff,decide_eq_true_iff,decide_eq_true_iff]
  unfold may;omega

structure RSAt (H:Array Obj) (bsp:Nat) (r:RM) (s:Sp):Prop where
 mem:RMAt H r s.mem
 ne:bsp ∉ r.bs
 sp: ∃cs:Array Value,H[bsp]?=some (.cells cs 78 (0,0))/\cs.size=21/\cs[0]?=some (.pointer (some ⟨r.bm,0,none⟩))/\ ∀g k,g<5->k<4->cs[1+g*4+k]?=some (.int .i64 (s.cur g k-1))
theorem RSAt.keep{S:List Nat}{H H':Array Obj}{b:Nat}{r:RM}{s:Sp}(h:RSAt H b r s)(f:Fr S H H')(h0:b ∉ S)(h1: ∀q∈r.bs,q ∉ S):RSAt H' b r s:=by
 obtain⟨cs,hb,hr⟩:=h.sp
 exact⟨h.mem.keep f h1,h.ne,cs,f.get h0 hb,hr⟩
theorem RSAt.ext{H H':Array Obj}{b:Nat}{r:RM}{s:Sp}(h:RSAt H b r s)(f:Ext H H'):RSAt H' b r s:=h.keep (S:=[]) f.fr (by simp) (by simp)
theorem RSAt.lt{H:Array Obj}{b:Nat}{r:RM}{s:Sp}(h:RSAt H b r s): ∀q∈b::r.bs,q<H.size:=λq hq=>by
 rcases List.mem_cons.1 hq with rfl | hq
 ·obtain⟨cs,hb,_⟩:=h.sp;exact lt_size hb
 ·exact h.mem.lt q hq
theorem RSAt.mPtr{H:Array Obj}{b:Nat}{r:RM}{s:Sp}(h:RSAt H b r s):hat H ⟨b,0,none⟩=some (.pointer (some ⟨r.bm,0,none⟩)):=by
 obtain⟨cs,hb,_,h0,_⟩:=h.sp
 rw[hat_blk hb,h0]
def SStep(H H':Array Obj)(b:Nat)(r:RM)(s':Sp):Prop:= ∃r':RM,RSAt H' b r' s'/\r'.bm=r.bm/\(∀q∈r'.bs,q∈r.bs\/H.size<=q)
theorem SStep.same{H H':Array Obj}{b:Nat}{r:RM}{s:Sp}(h:RSAt H' b r s):SStep H H' b r s:=⟨r,h,rfl,λq hq=> .inl hq⟩
theorem RSAt.step{H H':Array Obj}{b:Nat}{r:RM}{s:Sp}{m:Mem}(h:RSAt H b r s)(st:RStep H H' r m)(f:Fr r.bs H H'):SStep H H' b r {s with mem:=m}:=by
 obtain⟨r',h',hbm,hbs⟩:=st
 obtain⟨cs,hb,h1,h2,h3⟩:=h.sp
 have hlt:=lt_size hb
 refine⟨r',⟨h',λhm=>?_,cs,f.get h.ne hb,h1,by rw[hbm];exact h2,h3⟩,hbm,hbs⟩
 rcases hbs b hm with h | h
 ·rename_i h0;exact h0.ne h
 ·omega

theorem ref08_Fresh_c{H:Array Obj}{b:Nat}{cs:Array Value}{T:TypeId}(hb:H[b]?=some (.cells cs T (0,0)))(hs:cs.size=21):
  moraineref08_Space_Fresh.C (some ⟨b,0,none⟩) none 0 0 H (λ_ H'=>(∃cs':Array Value,H'[b]?=some (.cells cs' T (0,0))/\cs'.size=21/\cs'[0]?=cs[0]?/\ ∀g k,g<5->k<4->cs'[1+g*4+k]?=some (.int .i64 (-1)))/\Fr [b] H H'):=by
 refine HC.via λR hR=>moraineref08_Space_Fresh.link ?_
 unfold moraineref08_Space_Fresh.pt
 refine⟨λgv H'=> ∃(g:Nat) (cs':Array Value),gv=g/\g<=5/\H'[b]?=some (.cells cs' T (0,0))/\cs'.size=21/\cs'[0]?=cs[0]?/\(∀g' k,g'<g->k<4->cs'[1+g'*4+k]?=some (.int .i64 (-1)))/\Fr [b] H H',λgv _=>(5-gv).toNat,⟨0,cs,rfl,by omega,hb,hs,rfl,λg' k h=>by omega,Fr.refl _ _⟩,?_⟩
 rintro gv H1 ⟨g,cs1,rfl,hg,hb1,hs1,h01,hc1,f1⟩
 by_cases hlt:(g:Int)<=4
 case neg=>
  rw[if_neg hlt]
  have:g=5:=by omega
  subst this
  exact hR _ _ ⟨⟨cs1,hb1,hs1,h01,hc1⟩,f1⟩
 rw[if_pos hlt]
 refine⟨λbv i H'=>bv=true/\i=0/\H'=H1,λ_ _ _=>0,⟨rfl,rfl,rfl⟩,?_⟩
 rintro bv i H2 ⟨rfl,rfl,rfl⟩
 rw[if_neg (by decide),if_pos rfl]
 refine⟨_,rfl,⟨by omega,by omega⟩,?_⟩
 rw[addr_add2,addr_add_mk,Int.toNat_natCast]
 refine⟨canPuts_blk hb1 _ _ _ (by omega),λH3 hH3=>?_⟩
 rw[hputs_blk _ _ _ _ 0 hb1]at hH3
 have hb3:H3[b]?=some (.cells (splice cs1 (1+g*4) [.int .i64 (-1),.int .i64 (-1),.int .i64 (-1),.int .i64 (-1)]) T (0,0)):=by
  rw[hH3,setBlk_get (lt_size hb1)];simp
 have f3:Fr [b] H2 H3:=by rw[hH3];exact Fr.set
 rw[w64 (n:=(g:Int)+1) (by omega)]
 refine⟨⟨g+1,_,by omega,by omega,hb3,by rw[splice_size];exact hs1,?_,λg' k hg' hk=>?_,f1.trans f3⟩,by show(5-((g:Int)+1)).toNat< (5-(g:Int)).toNat;omega⟩
 ·rw[splice_get_lt _ _ _ _ (by omega)];exact h01
 ·by_cases e:g'=g
  ·subst e
   rw[splice_get_in cs1 _ (1+g'*4) k (by simp;omega) (by simpa using hk)]
   rcases k with _ | _ | _ | _ | k
   ·rfl
   ·rfl
   ·rfl
   ·rfl
   ·omega
  ·rw[splice_get_lt _ _ _ _ (by omega)];exact hc1 g' k (by omega) hk

theorem ref08_New_c{H:Array Obj}{limit:Int}(hl:I64 limit):
  moraineref08_New.C limit H (λv H'=>((¬(8<=limit/\limit<=1024)/\v=.pointer none)\/((8<=limit/\limit<=1024)/\ ∃(b:Nat) (r:RM),v=.pointer (some ⟨b,0,none⟩)/\RSAt H' b r ⟨Mem.fresh limit.toNat,λ_ _=>0⟩/\(∀q∈b::r.bs,H.size<=q)))/\Ext H H'):=by
 refine HC.via λR hR=>moraineref08_New.link ?_
 unfold moraineref08_New.pt
 refine HC.mono (ref07_New_c hl) ?_
 rintro v H1 ⟨hd,e1⟩
 rcases hd with⟨hc,rfl,rfl⟩ | ⟨hc,r,rfl,hr,hbs⟩
 ·refine⟨_,rfl,?_⟩
  rw[onPtr_none]
  exact hR _ _ ⟨.inl ⟨hc,rfl⟩,e1⟩
 refine⟨_,rfl,?_⟩
 rw[onPtr_some]
 intro b H2 hb hH2
 have e2:Ext H1 H2:=Ext.push' hH2
 have g:=push_get hb hH2
 refine HC.mono (ref08_Fresh_c g (by rfl)) ?_
 rintro v H3 ⟨⟨cs,hb3,hs,h0,hcur⟩,f3⟩
 have e13:Ext H1 H3:=e2.fr_trans f3 (λq hq=>by simp at hq;omega)
 have hbr:b ∉ r.bs:=λhm=>by have:=hr.lt b hm;omega
 refine hR _ _ ⟨.inr ⟨hc,b,r,rfl,⟨hr.ext e13,hbr,cs,hb3,hs,by rw[h0];rfl,hcur⟩,λq hq=>?_⟩,e1.trans e13⟩
 rcases List.mem_cons.1 hq with rfl | hq
 ·have:=e1.size;omega
 ·exact hbs q hq

theorem Mem.take_fail{m:Mem}{g k:Int}(h:(m.take g k).2.2≠0):(m.take g k).1=m:=by
 unfold Mem.take at h⊢
 split
 ·rfl
 split
 ·rfl
 ·rename_i h1 h2;rw[if_neg h1,if_neg h2]at h;exact absurd rfl h
theorem ref08_Alloc_c{H:Array Obj}{b:Nat}{r:RM}{s:Sp}{gen kind n:Int}(h:RSAt H b r s)(ok:SpOK s):
  moraineref08_Space_Alloc.C (some ⟨b,0,none⟩) gen kind n H (λv H'=>v=.tuple #[.int .i64 (s.alloc gen kind n).2.1,.int .i64 (s.alloc gen kind n).2.2]/\SStep H H' b r (s.alloc gen kind n).1/\Fr (b::r.bs) H H'):=by
 refine HC.via λR hR=>moraineref08_Space_Alloc.link ?_
 unfold moraineref08_Space_Alloc.pt
 refine HC.mono ref08_May_c ?_
 rintro v H1 ⟨rfl,rfl⟩
 refine⟨_,rfl,?_⟩
 by_cases hm:may gen kind n
 case neg=>
  rw[if_neg (by simpa using hm)]
  have e:s.alloc gen kind n=(s,0,1):=by unfold Sp.alloc;rw[if_pos hm]
  rw[e]at hR
  exact hR _ _ ⟨rfl,.same h,Fr.refl _ _⟩
 rw[if_pos (decide_eq_true hm)]
 have hg:0<=gen/\gen<=4:=hm.1
 have hk:0<=kind/\kind<=3:=by have:=hm.2;omega
 have hn:1<=n/\n<=63:=by have:=hm.2;omega
 obtain⟨cs,hb,hs,h0,hcur⟩:=h.sp
 have hcur':=hcur gen.toNat kind.toNat (by omega) (by omega)
 have ea:(((Addr.mk b 0 none).add 1).add (gen.toNat*4)).add (kind.toNat*1)=⟨b,1+gen.toNat*4+kind.toNat,none⟩:=by rw[addr_add2,addr_add2,addr_add_mk];congr 1;omega
 generalize hcv:s.cur gen.toNat kind.toNat=cu at hcur'
 refine⟨_,rfl,⟨hg.1,by omega⟩,⟨hk.1,by omega⟩,cu-1,by rw[ea,hat_blk hb];exact hcur',?_⟩
 have hoc:=ok.cur gen.toNat kind.toNat
 rw[hcv]at hoc
 refine⟨λbv H'=>H'=H1/\bv=decide (cu≠0/\(s.mem.bump (cu-1) n).2.2=0),?_,?_⟩
 ·rcases hoc with hz | ⟨h1,hhas,_,_⟩
  ·rw[if_neg (by omega)]
   exact⟨rfl,by rw[decide_eq_false (λhh=>hh.1 hz)]⟩
  ·rw[if_pos (by omega)]
   refine⟨_,h.mPtr,_,rfl,_,_,_,h.mem.slAt,_,h.mPtr,?_⟩
   refine HC.mono (ref07_Place_c h.mem ok.mem) ?_
   rintro v H2 ⟨⟨x,rfl,hx⟩,rfl⟩
   rcases hx with⟨_,i,rfl,hi⟩ | ⟨hno,_⟩
   case inr=>exact absurd hhas hno
   obtain⟨a,ha,_,hlt,hkL,hat',_⟩:=h.mem.row hi
   have hlen:=h.mem.len ok.mem
   have r1:RowAt H2 ⟨b,0,none⟩ 0 [.pointer (some ⟨r.bm,0,none⟩)]:=⟨by rw[addr_z];exact h.mPtr,trivial⟩
   have r2:RowAt H2 ((Addr.mk r.bm 0 none).add 1) 0 [.slice r.p r.L.length r.c]:=⟨by rw[addr_z];exact h.mem.slAt,trivial⟩
   refine⟨_,rfl,r1,r2,a,ha,⟨by omega,by omega⟩,?_⟩
   rw[Int.toNat_natCast]
   refine⟨_,_,_,hat' 8 _ rfl,r1,r2,rfl,?_⟩
   have hsn:=(ok.mem.seg (cu-1).toNat).n
   rw[w64 (by omega)]
   congr 1
   unfold Mem.bump
   rw[if_neg (λhh=>hh hhas),if_neg (show¬n<1 by omega),eq_iff_iff]
   by_cases hf:64-(s.mem.seg (cu-1).toNat).n<n
   ·rw[if_pos hf]
    exact⟨λhh=>by omega,λhh=>absurd (show(2:Int)=0 from hh.2) (by decide)⟩
   ·rw[if_neg hf]
    exact⟨λ_=>⟨by omega,rfl⟩,λ_=>by omega⟩
 rintro bv H2 ⟨rfl,rfl⟩
 by_cases hfit:cu≠0/\(s.mem.bump (cu-1) n).2.2=0
 ·rw[if_pos (decide_eq_true hfit)]
  have e:s.alloc gen kind n=({s with mem:=(s.mem.bump (cu-1) n).1},(s.mem.bump (cu-1) n).2.1,0):=by
   unfold Sp.alloc;rw[if_neg (λhh=>hh hm),hcv,if_pos hfit]
  rw[e]at hR
  have hcb:I64 (cu-1):=by
   rcases hoc with hz | ⟨h1,hhas,_,_⟩
   ·omega
   ·have:=hhas.1;have:=hhas.2.1;have:=ok.mem.lim;omega
  refine⟨_,h.mPtr,?_⟩
  refine HC.mono (ref07_Bump_c' h.mem ok.mem hcb) ?_
  rintro v H3 ⟨rfl,st,f⟩
  refine⟨_,_,rfl,hR _ _ ⟨by rw[hfit.2],h.step st f,f.mono λq hq _=>List.mem_cons_of_mem _ hq⟩⟩
 rw[if_neg (by simpa using hfit)]
 refine⟨_,h.mPtr,?_⟩
 refine HC.mono (ref07_Take_c h.mem ok.mem) ?_
 rintro v H3 ⟨rfl,st,f⟩
 refine⟨_,_,rfl,?_⟩
 obtain⟨r3,h3,hbm3,hbs3⟩:=h.step st f
 have okt:=ok.mem.take gen kind
 by_cases he:(s.mem.take gen kind).2.2=0
 case neg=>
  rw[if_neg he]
  have e:s.alloc gen kind n=(s,0,(s.mem.take gen kind).2.2):=by
   unfold Sp.alloc;rw[if_neg (λhh=>hh hm),hcv,if_neg hfit,if_neg he]
  rw[e]at hR
  rw[Mem.take_fail he]at h3
  exact hR _ _ ⟨rfl,⟨r3,h3,hbm3,hbs3⟩,f.mono λq hq _=>List.mem_cons_of_mem _ hq⟩
 rw[if_pos he]
 have hk3:I64 (s.mem.take gen kind).2.1:=by
  unfold Mem.take
  split
  ·exact(by decide:I64 0)
  split
  ·exact(by decide:I64 0)
  ·rename_i hf
   have h1:=(Mem.first_spec ok.mem hf).1
   have h2:=ok.mem.lim
   show I64 ((s.mem.first:Nat):Int)
   generalize s.mem.first=q at*
   constructor<;>omega
 have e:s.alloc gen kind n=({mem:=((s.mem.take gen kind).1.bump (s.mem.take gen kind).2.1 n).1,cur:=(s.setCur gen.toNat kind.toNat ((s.mem.take gen kind).2.1+1)).cur},((s.mem.take gen kind).1.bump (s.mem.take gen kind).2.1 n).2.1,((s.mem.take gen kind).1.bump (s.mem.take gen kind).2.1 n).2.2):=by
  unfold Sp.alloc;rw[if_neg (λhh=>hh hm),hcv,if_neg hfit,if_pos he]
 rw[e]at hR
 generalize hta:s.mem.take gen kind=ta at*
 obtain⟨cs3,hb3,hs3,h03,hcur3⟩:=h3.sp
 refine⟨⟨hg.1,by omega⟩,⟨hk.1,by omega⟩,?_⟩
 rw[ea]
 refine⟨canPuts_blk hb3 _ _ _ (by omega),λH5 hH5=>?_⟩
 rw[hputs_blk _ _ _ _ 0 hb3]at hH5
 have hb5:H5[b]?=some (.cells (splice cs3 (1+gen.toNat*4+kind.toNat) [.int .i64 ta.2.1]) 78 (0,0)):=by
  rw[hH5,setBlk_get (lt_size hb3)];rfl
 have f5:Fr [b] H3 H5:=by rw[hH5];exact Fr.set
 have h5:RSAt H5 b r3 {mem:=ta.1,cur:=(s.setCur gen.toNat kind.toNat (ta.2.1+1)).cur}:=by
  refine⟨h3.mem.keep f5 (λq hq hm=>h3.ne (by simp at hm;rw[<-hm];exact hq)),h3.ne,_,hb5,by rw[splice_size];exact hs3,by rw[splice_get_lt _ _ _ _ (by omega)];exact h03,λg k hg' hk'=>?_⟩
  show _=some (Value.int .i64 ((if g=gen.toNat/\k=kind.toNat then ta.2.1+1 else s.cur g k)-1))
  by_cases hgk:g=gen.toNat/\k=kind.toNat
  ·rw[if_pos hgk,hgk.1,hgk.2]
   have:=splice_get_in cs3 [.int .i64 ta.2.1] (1+gen.toNat*4+kind.toNat) 0 (by simp;omega) (by simp)
   rw[Nat.add_zero]at this
   rw[this,show ta.2.1+1-1=ta.2.1 by omega];rfl
  ·rw[if_neg hgk,<-hcur3 g k hg' hk']
   rcases Nat.lt_or_ge (1+g*4+k) (1+gen.toNat*4+kind.toNat)with h1 | h1
   ·exact splice_get_lt _ _ _ _ h1
   ·exact splice_get_ge _ _ _ _ (by simp;omega)
 refine⟨_,h5.mPtr,?_⟩
 refine HC.mono (ref07_Bump_c' h5.mem okt hk3) ?_
 rintro v H6 ⟨rfl,st6,f6⟩
 obtain⟨r6,h6,hbm6,hbs6⟩:=h5.step st6 f6
 have hsz3:=f.size
 have hsz5:=f5.size
 refine⟨_,_,rfl,hR _ _ ⟨rfl,⟨r6,h6,hbm6.trans hbm3,λq hq=>?_⟩,?_⟩⟩
 ·rcases hbs6 q hq with h1 | h1
  ·exact hbs3 q h1
  ·exact .inr (by omega)
 ·have f35:Fr (b::r.bs) H2 H5:=f.trans' f5 (λq hq _=>List.mem_cons_of_mem _ hq) (λq hq _=>by simp at hq;rw[hq];exact List.mem_cons_self ..)
  exact f35.trans' f6 (λq hq _=>hq) (λq hq hlt=>(hbs3 q hq).elim (λh=>List.mem_cons_of_mem _ h) (λh=>by omega))
end Go.Proofs.YtibpklpgmgakcaaGreat
