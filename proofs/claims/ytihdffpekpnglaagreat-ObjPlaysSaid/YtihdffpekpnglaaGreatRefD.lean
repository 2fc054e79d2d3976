/-
 The document's cards and heap (moraineref09, moraineref10), told by the same abstract memory as the program's. Proves nothing of any one statement.
-/
import Derived.Test.YtihdffpekpnglaaGreatRefS
import Derived.Test.YtihdffpekpnglaaGreatFref10
import Derived.Test.YtihdffpekpnglaaGreatFref101
import Derived.Test.YtihdffpekpnglaaGreatFref102
set_option linter.unusedVariables false
set_option linter.unusedSimpArgs false
namespace Go.Proofs.YtihdffpekpnglaaGreat
open Go

theorem OfIs.addr{w k t a x m:Int}(h:OfIs w k t a x m):(k=2 ↔ jN w)/\(k=2->t=w % 8/\a=w / 8):=by
 unfold OfIs at h
 unfold jN
 rcases h with h | h | h | h | h | h
 ·exact⟨⟨λe=>by omega,λe=>by omega⟩,λe=>by omega⟩
 ·exact⟨⟨λe=>⟨h.1,h.2.1⟩,λe=>h.2.2.1⟩,λe=>⟨h.2.2.2.1,h.2.2.2.2.1⟩⟩
 ·exact⟨⟨λe=>by omega,λe=>by omega⟩,λe=>by omega⟩
 ·exact⟨⟨λe=>by omega,λe=>by omega⟩,λe=>by omega⟩
 ·exact⟨⟨λe=>by omega,λe=>by omega⟩,λe=>by omega⟩
 ·refine⟨⟨λe=>by omega,λe=>?_⟩,λe=>by omega⟩
  have h1:=h.1
  unfold mayW at h1
  rw[if_neg (by omega),if_pos e.1,decide_eq_false_iff_not]at h1
  exact absurd e.2 h1
theorem OfIs.head{w k t a x m:Int}(h:OfIs w k t a x m):(k=5 ↔ jO w)/\(k=5->t=hk w/\a=hn w/\m=hm w):=by
 unfold OfIs at h
 unfold jO hk hn hm
 rcases h with h | h | h | h | h | h
 ·exact⟨⟨λe=>by omega,λe=>by omega⟩,λe=>by omega⟩
 ·exact⟨⟨λe=>by omega,λe=>by omega⟩,λe=>by omega⟩
 ·exact⟨⟨λe=>by omega,λe=>by omega⟩,λe=>by omega⟩
 ·exact⟨⟨λe=>by omega,λe=>by omega⟩,λe=>by omega⟩
 ·exact⟨⟨λe=>⟨h.1,h.2.1⟩,λe=>h.2.2.1⟩,λe=>⟨h.2.2.2.1,h.2.2.2.2.1,h.2.2.2.2.2.2⟩⟩
 ·refine⟨⟨λe=>by omega,λe=>?_⟩,λe=>by omega⟩
  have h1:=h.1
  unfold mayW at h1
  rw[if_neg (by omega),if_neg (by omega),if_neg (by omega),if_pos e.1,decide_eq_false_iff_not]at h1
  exact absurd e.2 h1

structure RCAt (H:zW) (bc bsp:Nat) (r:RM) (s:Sp):Prop where
 sp:RSAt H bsp r s
 c:H[bc]?=some (.cells #[.pointer (some ⟨bsp,0,none⟩)] 68 (0,0))
 ne:bc≠bsp/\bc ∉ r.bs
theorem RCAt.keep{S:List Nat}{H H':zW}{bc bsp:Nat}{r:RM}{s:Sp}(h:RCAt H bc bsp r s)(f:Fr S H H')(h0:bc ∉ S)(h1:bsp ∉ S)(h2: ∀q∈r.bs,q ∉ S):RCAt H' bc bsp r s:=
 ⟨h.sp.keep f h1 h2,f.get h0 h.c,h.ne⟩
theorem RCAt.ext{H H':zW}{bc bsp:Nat}{r:RM}{s:Sp}(h:RCAt H bc bsp r s)(f:Ext H H'):RCAt H' bc bsp r s:=h.keep (S:=[]) f.fr (by simp) (by simp) (by simp)
theorem RCAt.cPtr{H:zW}{bc bsp:Nat}{r:RM}{s:Sp}(h:RCAt H bc bsp r s):hat H ⟨bc,0,none⟩=some (.pointer (some ⟨bsp,0,none⟩)):=by rw[aU h.c];rfl
theorem RCAt.lt{H:zW}{bc bsp:Nat}{r:RM}{s:Sp}(h:RCAt H bc bsp r s): ∀q∈bc::bsp::r.bs,q<H.size:=λq hq=>by
 rcases List.mem_cons.1 hq with rfl | hq
 ·exact bI h.c
 ·exact h.sp.lt q hq
theorem RCAt.withMem{S:List Nat}{H H':zW}{bc bsp:Nat}{r:RM}{s:Sp}{m:Mem}(h:RCAt H bc bsp r s)(f:Fr S H H')(hS: ∀q∈S,q<H.size->q∈r.bs)(hm:RMAt H' r m):RCAt H' bc bsp r {s with mem:=m}:=by
 obtain⟨cs,hb,hr⟩:=h.sp.sp
 have hlt:=h.lt
 have n1:bc ∉ S:=λhq=>h.ne.2 (hS _ hq (hlt _ (by simp)))
 have n2:bsp ∉ S:=λhq=>h.sp.ne (hS _ hq (hlt _ (by simp)))
 exact⟨⟨hm,h.sp.ne,cs,f.get n2 hb,hr⟩,f.get n1 h.c,h.ne⟩

theorem pc{H:zW}{limit:Int}(hl:I64 limit):
  eW.C limit H (λv H'=>((¬(8<=limit/\limit<=1024)/\v=.pointer none)\/((8<=limit/\limit<=1024)/\ ∃(bc bsp:Nat) (r:RM),v=.pointer (some ⟨bc,0,none⟩)/\RCAt H' bc bsp r ⟨Mem.fresh limit.toNat,λ_ _=>0⟩/\(∀q∈bc::bsp::r.bs,H.size<=q)))/\Ext H H'):=by
 refine HC.via λR hR=>eW.link ?_
 unfold eW.pt
 refine HC.mono (pb hl) ?_
 rintro v H1 ⟨hd,e1⟩
 rcases hd with⟨hc,rfl⟩ | ⟨hc,b,r,rfl,hr,hbs⟩
 ·refine⟨_,rfl,?_⟩
  rw[onPtr_none]
  exact hR _ _ ⟨.inl ⟨hc,rfl⟩,e1⟩
 refine⟨_,rfl,?_⟩
 rw[onPtr_some]
 intro bc H2 hb hH2
 have e2:Ext H1 H2:=Ext.push' hH2
 have hlt:=hr.lt
 refine hR _ _ ⟨.inr ⟨hc,bc,b,r,rfl,⟨hr.ext e2,aO hb hH2,λe=>by have:=hlt b (by simp);omega,λhm=>by have:=hlt bc (List.mem_cons_of_mem _ hm);omega⟩,λq hq=>?_⟩,e1.trans e2⟩
 rcases List.mem_cons.1 hq with rfl | hq
 ·have:=e1.size;omega
 ·exact hbs q hq

theorem pd{H:zW}{bc bsp:Nat}{r:RM}{s:Sp}{w:Int}(h:RCAt H bc bsp r s)(ok:cF s.mem)(hw:aM w):
  cO.C (some ⟨bc,0,none⟩) w H (λv H'=>v=.tuple #[.int .i64 (s.mem.genOf w).1,.bool (s.mem.genOf w).2]/\Ext H H'):=by
 refine HC.via λR hR=>cO.link ?_
 unfold cO.pt zq
 refine HC.mono (jP hw) ?_
 rintro v H1 ⟨k,t,a,x,m,rfl,hof,e1⟩
 refine⟨k,t,a,x,m,rfl,?_⟩
 intro b H2 hb hH2
 obtain⟨p1,p2⟩:=fE (vs:=[.int .i64 k,.int .i64 t,.int .i64 a,.int .i64 x,.int .u64 m]) hb hH2 rfl rfl
 refine⟨p1,λH3 hH3=>?_⟩
 obtain⟨g3,e3⟩:=p2 H3 hH3
 have e13:=e1.trans e3
 obtain⟨ha,ha2⟩:=hof.addr
 refine⟨k,by rw[aU g3];rfl,?_⟩
 have no: ¬(jN w/\w % 8≠6)-> ∀H',Ext H H'->R (.tuple #[.int .i64 0,.bool false]) H':=λhn H' e=>by
  have eg:s.mem.genOf w=(0,false):=by unfold Mem.genOf;rw[if_neg hn]
  rw[eg]at hR
  exact hR _ _ ⟨rfl,e⟩
 by_cases h2:k=2
 case neg=>rw[if_neg h2];exact no (λhh=>h2 (ha.2 hh.1)) _ e13
 rw[if_pos h2]
 obtain⟨rfl,rfl⟩:=ha2 h2
 refine⟨w % 8,by rw[aS g3];rfl,?_⟩
 by_cases h6:w % 8=6
 ·rw[if_pos h6];exact no (λhh=>hh.2 h6) _ e13
 rw[if_neg h6]
 have h3:=h.ext e13
 have hw0:=hw.1
 have hadr:=(ha.1 h2).2
 refine⟨_,rfl,_,h3.cPtr,_,rfl,_,h3.sp.mPtr,w / 8,by rw[aS g3];rfl,?_⟩
 rw[ic (by omega),w64 (n:=w / 8 / 64) (by omega)]
 refine HC.mono (iq h3.sp.mem ok) ?_
 rintro v H4 ⟨⟨x4,rfl,hx⟩,rfl⟩
 refine⟨x4,rfl,?_⟩
 rcases hx with⟨hh,i,rfl,hi⟩ | ⟨hh,rfl⟩
 ·rw[if_neg (by omega)]
  obtain⟨p,hp,_,hlt,hk,hat',_⟩:=h3.sp.mem.row hi
  refine⟨_,h3.cPtr,_,rfl,_,h3.sp.mPtr,_,rfl,_,_,_,h3.sp.mem.slAt,p,hp,⟨by omega,by omega⟩,?_⟩
  rw[Int.toNat_natCast]
  refine⟨_,hat' 1 _ rfl,?_⟩
  have eg:s.mem.genOf w=((s.mem.seg (w / 8 / 64).toNat).gen,true):=by unfold Mem.genOf;rw[if_pos ⟨ha.1 h2,h6⟩,if_pos hh,zQ hh]
  rw[eg]at hR
  exact hR _ _ ⟨rfl,e13⟩
 ·rw[if_pos (by omega)]
  have eg:s.mem.genOf w=(0,false):=by unfold Mem.genOf;rw[if_pos ⟨ha.1 h2,h6⟩,if_neg hh,zJ hh]
  rw[eg]at hR
  exact hR _ _ ⟨rfl,e13⟩

theorem Mem.upd_self(m:Mem)(k:Nat):m.upd k (m.seg k)=m:=by
 unfold Mem.upd
 have:(λi=>if i=k then m.seg k else m.seg i)=m.seg:=by
  funext i;split
  ·rename_i e;rw[e]
  ·rfl
 rw[this]
theorem Seg.mark_self(s:Seg)(c:Nat):s.mark c (s.cards c)=s:=by
 unfold Seg.mark
 have:(λi=>if i=c then s.cards c else s.cards i)=s.cards:=by
  funext i;split
  ·rename_i e;rw[e]
  ·rfl
 rw[this]
theorem kT{H:zW}{bc bsp:Nat}{r:RM}{s:Sp}{a w:Int}(h:RCAt H bc bsp r s)(ok:cF s.mem)(ha:I64 a)(hw:aM w):
  bO.C (some ⟨bc,0,none⟩) a w H (λv H'=>v=.int .i64 (s.mem.store a w).2/\RCAt H' bc bsp r {s with mem:=(s.mem.store a w).1}/\Fr r.bs H H'):=by
 refine HC.via λR hR=>bO.link ?_
 unfold bO.pt zq
 refine⟨_,rfl,_,h.cPtr,_,rfl,_,h.sp.mPtr,?_⟩
 refine HC.mono (kR h.sp.mem ok ha) ?_
 rintro v H1 ⟨rfl,h1,f1⟩
 refine⟨_,rfl,?_⟩
 by_cases hu:s.mem.used a
 case neg=>
  rw[if_neg hu,if_neg (by decide)]
  rw[if_neg hu]at h1
  have e:s.mem.store a w=(s.mem,18):=by unfold Mem.store;rw[if_neg hu]
  rw[e]at hR
  exact hR _ _ ⟨rfl,h.withMem f1 (λq hq _=>hq) h1,f1⟩
 rw[if_pos hu,if_pos rfl]
 rw[if_pos hu]at h1
 have hst:s.mem.store a w=(s.mem.set a w).mark (a / 64) (a % 64 / 16) ((s.mem.set a w).younger ((s.mem.set a w).seg (a / 64).toNat) w (((s.mem.set a w).seg (a / 64).toNat).cards (a % 64 / 16).toNat)):=by unfold Mem.store;rw[if_pos hu]
 have hs0:=Mem.store_0 ok hu hw
 have ok2:=ok.set a hw
 have c1:=h.withMem f1 (λq hq _=>hq) h1
 have hhas:(s.mem.set a w).has (a / 64):=Mem.set_has.2 hu.2.1
 have ha0:=hu.1
 generalize hm2:s.mem.set a w=m2 at*
 have c1':RCAt H1 bc bsp r {s with mem:=m2}:=c1
 refine⟨_,c1.cPtr,_,rfl,_,c1.sp.mPtr,_,rfl,_,_,_,h1.slAt,_,c1.cPtr,_,rfl,_,c1.sp.mPtr,?_⟩
 rw[ic ha0,w64 (n:=a / 64) (by omega)]
 refine HC.mono (iq h1 ok2) ?_
 rintro v H2 ⟨⟨x,rfl,hx⟩,rfl⟩
 rcases hx with⟨_,i,rfl,hi⟩ | ⟨hno,_⟩
 case inr=>exact absurd hhas hno
 obtain⟨p,hp,_,hlt,hkL,hat',_⟩:=h1.row hi
 refine⟨_,rfl,⟨by rw[js];exact c1.cPtr,trivial⟩,⟨by rw[js];exact c1.sp.mPtr,trivial⟩,⟨by rw[js];exact h1.slAt,trivial⟩,p,hp,⟨by omega,by omega⟩,?_⟩
 rw[Int.toNat_natCast]
 refine HC.mono (pd c1' ok2 hw) ?_
 rintro v H3 ⟨rfl,e3⟩
 have h3:=h1.ext e3
 obtain⟨p3,hp3,_,_,_,hat3,_⟩:=h3.row hi
 rw[hp]at hp3
 cases hp3
 have hsg:=ok2.seg (a / 64).toNat
 have hc4:(a % 64 / 16).toNat<4:=by omega
 have f13:Fr r.bs H H3:=f1.trans e3.fr
 have hmk: ∀v,0<=v/\v<=5->m2.mark (a / 64) (a % 64 / 16) v=(m2.upd (a / 64).toNat ((m2.seg (a / 64).toNat).mark (a % 64 / 16).toNat v),0):=λv hv=>by
  unfold Mem.mark;rw[if_neg (λhh=>hh hhas),if_neg (by omega)]
 have hcd:=hsg.cards (a % 64 / 16).toNat
 have stay:m2.younger (m2.seg (a / 64).toNat) w ((m2.seg (a / 64).toNat).cards (a % 64 / 16).toNat)=(m2.seg (a / 64).toNat).cards (a % 64 / 16).toNat->R (.int .i64 0) H3:=λhy=>by
  rw[hst,hy,hmk _ hcd,Seg.mark_self,Mem.upd_self]at hR
  exact hR _ _ ⟨rfl,c1'.ext e3,f13⟩
 refine⟨_,_,rfl,?_⟩
 by_cases hg:(m2.genOf w).2=true
 case neg=>rw[if_neg hg];exact stay (by unfold Mem.younger;rw[if_neg (λhh=>hg hh.1)])
 rw[if_pos hg]
 have r2:=hat3 2 _ rfl
 rw[fG (p.add (i*9)) 1 1]
 refine⟨_,r2,?_⟩
 by_cases hk3:(m2.seg (a / 64).toNat).kind=3
 ·rw[if_pos hk3];exact stay (by unfold Mem.younger;rw[if_neg (λhh=>hh.2.1 hk3)])
 rw[if_neg hk3]
 refine⟨_,hat3 1 _ rfl,?_⟩
 by_cases hlg:(m2.genOf w).1< (m2.seg (a / 64).toNat).gen
 case neg=>rw[if_neg hlg];exact stay (by unfold Mem.younger;rw[if_neg (λhh=>hlg hh.2.2)])
 rw[if_pos hlg,gP ha0,ic (by omega),w64 (n:=a % 64 / 16) (by omega)]
 have ec:((((p.add (i*9)).add 1).add 3).add ((a % 64 / 16).toNat*1))=(p.add (i*9)).add (4+(a % 64 / 16).toNat):=by rw[fG (p.add (i*9)),fG (p.add (i*9)),Nat.mul_one]
 have rc:hat H3 ((p.add (i*9)).add (4+(a % 64 / 16).toNat))=some (.int .i64 ((m2.seg (a / 64).toNat).cards (a % 64 / 16).toNat)):=by
  refine hat3 _ _ ?_
  generalize (a % 64 / 16).toNat=c at hc4
  rcases c with _ | _ | _ | _ | c
  ·rfl
  ·rfl
  ·rfl
  ·rfl
  ·omega
 rw[ec]
 refine⟨⟨by omega,by omega⟩,_,rc,?_⟩
 by_cases hlc:(m2.genOf w).1< (m2.seg (a / 64).toNat).cards (a % 64 / 16).toNat
 case neg=>rw[if_neg hlc];exact stay (by unfold Mem.younger;rw[if_pos ⟨hg,hk3,hlg⟩];omega)
 rw[if_pos hlc]
 have hgn:=ok2.genOf w
 have hy:m2.younger (m2.seg (a / 64).toNat) w ((m2.seg (a / 64).toNat).cards (a % 64 / 16).toNat)=(m2.genOf w).1:=by unfold Mem.younger;rw[if_pos ⟨hg,hk3,hlg⟩];omega
 rw[hst,hy,hmk _ (by omega)]at hR
 obtain⟨p4,hp4,q1,q2⟩:=h3.put (o:=4+(a % 64 / 16).toNat) (vs:=[.int .i64 (m2.genOf w).1]) (s:=(m2.seg (a / 64).toNat).mark (a % 64 / 16).toNat (m2.genOf w).1) hi (by simp;omega) (by
  generalize (a % 64 / 16).toNat=c at hc4
  generalize (m2.genOf w).1=g
  unfold RM.row kB Seg.mark
  rcases c with _ | _ | _ | _ | c
  ·rfl
  ·rfl
  ·rfl
  ·rfl
  ·omega) rfl rfl rfl
 rw[hp]at hp4
 cases hp4
 refine⟨⟨by omega,by omega⟩,q1,λH4 hH4=>?_⟩
 obtain⟨h4,f4⟩:=q2 H4 hH4
 have c3:=c1'.ext e3
 exact hR _ _ ⟨rfl,c3.withMem f4 (λq hq _=>hq) h4,f13.trans f4⟩

structure RB where
 h:Nat
 c:Nat
 sp:Nat
def RB.all(q:RB)(r:RM):List Nat:=q.h::q.c::q.sp::r.bs
structure RHAt (H:zW) (q:RB) (r:RM) (s:Sp) (ep:Int):Prop where
 cd:RCAt H q.c q.sp r s
 h:H[q.h]?=some (.cells #[.pointer (some ⟨q.c,0,none⟩),.int .u64 ep] 71 (0,0))
 ne:q.h≠q.c/\q.h≠q.sp/\q.h ∉ r.bs
theorem RHAt.keep{S:List Nat}{H H':zW}{q:RB}{r:RM}{s:Sp}{ep:Int}(h:RHAt H q r s ep)(f:Fr S H H')(hd: ∀b∈q.all r,b ∉ S):RHAt H' q r s ep:=
 ⟨h.cd.keep f (hd _ (by simp[RB.all])) (hd _ (by simp[RB.all])) (λb hb=>hd b (by simp[RB.all,hb])),f.get (hd _ (by simp[RB.all])) h.h,h.ne⟩
theorem RHAt.ext{H H':zW}{q:RB}{r:RM}{s:Sp}{ep:Int}(h:RHAt H q r s ep)(f:Ext H H'):RHAt H' q r s ep:=h.keep (S:=[]) f.fr (by simp)
theorem RHAt.hPtr{H:zW}{q:RB}{r:RM}{s:Sp}{ep:Int}(h:RHAt H q r s ep):hat H ⟨q.h,0,none⟩=some (.pointer (some ⟨q.c,0,none⟩)):=by rw[aU h.h];rfl
theorem RHAt.lt{H:zW}{q:RB}{r:RM}{s:Sp}{ep:Int}(h:RHAt H q r s ep): ∀b∈q.all r,b<H.size:=λb hb=>by
 rcases List.mem_cons.1 hb with rfl | hb
 ·exact bI h.h
 ·exact h.cd.lt b hb
theorem RHAt.withMem{S:List Nat}{H H':zW}{q:RB}{r:RM}{s:Sp}{ep:Int}{m:Mem}(h:RHAt H q r s ep)(f:Fr S H H')(hS: ∀b∈S,b<H.size->b∈r.bs)(hm:RMAt H' r m):RHAt H' q r {s with mem:=m} ep:=
 ⟨h.cd.withMem f hS hm,f.get (λhb=>h.ne.2.2 (hS _ hb (h.lt _ (by simp[RB.all])))) h.h,h.ne⟩
def ks(H H':zW)(q:RB)(r:RM)(s':Sp)(ep:Int):Prop:= ∃r':RM,RHAt H' q r' s' ep/\r'.bm=r.bm/\(∀b∈r'.bs,b∈r.bs\/H.size<=b)
theorem ks.same{H H':zW}{q:RB}{r:RM}{s:Sp}{ep:Int}(h:RHAt H' q r s ep):ks H H' q r s ep:=⟨r,h,rfl,λb hb=> .inl hb⟩
theorem RHAt.step{H H':zW}{q:RB}{r:RM}{s s':Sp}{ep:Int}(h:RHAt H q r s ep)(st:o9 H H' q.sp r s')(f:Fr (q.sp::r.bs) H H'):ks H H' q r s' ep:=by
 obtain⟨r',h',hbm,hbs⟩:=st
 have hlt:=h.lt
 have nh: ∀b,b<H.size->b ∉ r.bs->b ∉ r'.bs:=λb hb hn hm=>(hbs b hm).elim hn (λh=>by omega)
 refine⟨r',⟨⟨h',f.get (λhb=>?_) h.cd.c,h.cd.ne.1,nh _ (hlt _ (by simp[RB.all])) h.cd.ne.2⟩,f.get (λhb=>?_) h.h,h.ne.1,h.ne.2.1,nh _ (hlt _ (by simp[RB.all])) h.ne.2.2⟩,hbm,hbs⟩
 ·rcases List.mem_cons.1 hb with e | e
  ·exact h.cd.ne.1 e
  ·exact h.cd.ne.2 e
 ·rcases List.mem_cons.1 hb with e | e
  ·exact h.ne.2.1 e
  ·exact h.ne.2.2 e

theorem l6{H:zW}{limit:Int}(hl:I64 limit):
  eV.C limit H (λv H'=>((¬(8<=limit/\limit<=1024)/\v=.pointer none)\/((8<=limit/\limit<=1024)/\ ∃(q:RB) (r:RM),v=.pointer (some ⟨q.h,0,none⟩)/\RHAt H' q r ⟨Mem.fresh limit.toNat,λ_ _=>0⟩ 0/\(∀b∈q.all r,H.size<=b)))/\Ext H H'):=by
 refine HC.via λR hR=>eV.link ?_
 unfold eV.pt
 refine HC.mono (pc hl) ?_
 rintro v H1 ⟨hd,e1⟩
 rcases hd with⟨hc,rfl⟩ | ⟨hc,bc,bsp,r,rfl,hr,hbs⟩
 ·refine⟨_,rfl,?_⟩
  rw[onPtr_none]
  exact hR _ _ ⟨.inl ⟨hc,rfl⟩,e1⟩
 refine⟨_,rfl,?_⟩
 rw[onPtr_some]
 intro bh H2 hb hH2
 have e2:Ext H1 H2:=Ext.push' hH2
 have hlt:=hr.lt
 refine hR _ _ ⟨.inr ⟨hc,⟨bh,bc,bsp⟩,r,rfl,⟨hr.ext e2,aO hb hH2,?_,?_,?_⟩,λb hq=>?_⟩,e1.trans e2⟩
 ·intro e;have e':bh=bc:=e;have:=hlt bc (by simp);omega
 ·intro e;have e':bh=bsp:=e;have:=hlt bsp (by simp);omega
 ·intro hm;have hm':bh∈r.bs:=hm;have:=hlt bh (by simp[hm']);omega
 ·rcases List.mem_cons.1 hq with e | hq
  ·have e':b=bh:=e
   have:=e1.size;omega
  ·exact hbs b hq

theorem iz{H:zW}{q:RB}{r:RM}{s:Sp}{ep w:Int}(h:RHAt H q r s ep)(ok:cF s.mem)(hw:aM w):
  aW.C (some ⟨q.h,0,none⟩) w H (λv H'=>(∃a k t l x m:Int,v=.tuple #[.int .i64 a,.agg #[.int .i64 k,.int .i64 t,.int .i64 l,.int .i64 x,.int .u64 m]]/\
   ((s.mem.isObj w/\a=w / 8/\t=hk (s.mem.get (w / 8))/\l=hn (s.mem.get (w / 8))/\m=hm (s.mem.get (w / 8)))\/(¬s.mem.isObj w/\a= -1/\t=0/\l=0/\m=0)))/\Ext H H'):=by
 refine HC.via λR hR=>aW.link ?_
 unfold aW.pt zq
 intro b H1 hb hH1
 have e1:Ext H H1:=Ext.push' hH1
 have g1:=aO hb hH1
 have no: ¬s.mem.isObj w-> ∀Hx,Ext H1 Hx->aJ Hx ⟨b,0,none⟩ 0 5/\ ∀H4:zW,H4=aP Hx ⟨b,0,none⟩ [.int .i64 0,.int .i64 0,.int .i64 0,.int .i64 0,.int .u64 0] 0->
   ∃k' t' a' x' m':Int,aG H4 ⟨b,0,none⟩ 0 [.int .i64 k',.int .i64 t',.int .i64 a',.int .i64 x',.int .u64 m']/\R (.tuple #[.int .i64 (-1),.agg #[.int .i64 k',.int .i64 t',.int .i64 a',.int .i64 x',.int .u64 m']]) H4:=λhno Hx ex=>
  jc (R:=λv H'=>R (.tuple #[.int .i64 (-1),v]) H') (ex.get g1) rfl (e1.trans ex) (by omega) (λH' e'=>hR _ _ ⟨⟨_,_,_,_,_,_,rfl,.inr ⟨hno,rfl,rfl,rfl,rfl⟩⟩,e'⟩)
 refine HC.mono (jP hw) ?_
 rintro v H2 ⟨k,t,a,x,m,rfl,hof,e2⟩
 refine⟨k,t,a,x,m,rfl,?_⟩
 intro b2 H3 hb2 hH3
 obtain⟨p1,p2⟩:=fE (vs:=[.int .i64 k,.int .i64 t,.int .i64 a,.int .i64 x,.int .u64 m]) hb2 hH3 rfl rfl
 refine⟨p1,λH4 hH4=>?_⟩
 obtain⟨g4,e4⟩:=p2 H4 hH4
 obtain⟨hka,ha2⟩:=hof.addr
 have e14:=e2.trans e4
 have e04:=e1.trans e14
 refine⟨k,by rw[aU g4];rfl,?_⟩
 by_cases h2:k=2
 case neg=>rw[if_neg h2];exact no (λhh=>h2 (hka.2 hh.1.1)) _ e14
 rw[if_pos h2]
 obtain⟨rfl,rfl⟩:=ha2 h2
 refine⟨w % 8,by rw[aS g4];rfl,?_⟩
 by_cases h3:w % 8=3
 case neg=>rw[if_neg h3];exact no (λhh=>h3 hh.1.2.1) _ e14
 rw[if_pos h3]
 have h4:=h.ext e04
 have hadr:=hka.1 h2
 have hw0:=hw.1
 have hlt8:=hadr.2
 refine⟨_,rfl,_,h4.hPtr,_,rfl,_,h4.cd.cPtr,_,rfl,_,h4.cd.sp.mPtr,w / 8,by rw[aS g4];rfl,?_⟩
 refine HC.mono (jy h4.cd.sp.mem ok ⟨by omega,by omega⟩) ?_
 rintro v H5 ⟨⟨ra,rb,rc,rfl,hwd⟩,rfl⟩
 refine⟨ra,rb,rc,rfl,?_⟩
 rcases hwd with⟨hu,rfl,rfl,i,rfl,hi⟩ | ⟨hu,rfl⟩
 case inr=>rw[if_neg (by decide)];exact no (λhh=>hu (hh.1.used hw)) _ e14
 rw[if_pos rfl]
 have hm4:=h4.cd.sp.mem
 obtain⟨p,hp,_,hlt,hkL,hat',hrow⟩:=hm4.row hi
 refine⟨_,h4.hPtr,_,rfl,_,h4.cd.cPtr,_,rfl,_,h4.cd.sp.mPtr,_,rfl,_,_,_,hm4.slAt,p,hp,⟨by omega,by omega⟩,?_⟩
 rw[Int.toNat_natCast]
 unfold RM.row kB at hrow
 refine⟨_,_,_,_,_,_,_,_,_,_,_,hrow,?_⟩
 intro b3 H6 hb3 hH6
 obtain⟨p3,p4⟩:=fE (vs:=[.int .i64 ((w / 8 / 64).toNat:Nat),.int .i64 (s.mem.seg (w / 8 / 64).toNat).gen,.int .i64 (s.mem.seg (w / 8 / 64).toNat).kind,.int .i64 (s.mem.seg (w / 8 / 64).toNat).n,.int .i64 ((s.mem.seg (w / 8 / 64).toNat).cards 0),.int .i64 ((s.mem.seg (w / 8 / 64).toNat).cards 1),.int .i64 ((s.mem.seg (w / 8 / 64).toNat).cards 2),.int .i64 ((s.mem.seg (w / 8 / 64).toNat).cards 3),.slice (r.wp (w / 8 / 64).toNat) (s.mem.seg (w / 8 / 64).toNat).n.toNat (r.wc (w / 8 / 64).toNat)]) hb3 hH6 rfl rfl
 refine⟨p3,λH7 hH7=>?_⟩
 obtain⟨g7,e7⟩:=p4 H7 hH7
 have hsg:=ok.seg (w / 8 / 64).toNat
 have hn:=hsg.n
 have hu2:=hu.2.2
 obtain⟨pw,hpw,hatw⟩:=(hm4.words _ hkL).at (Seg.ws_get (j:=(w / 8 % 64).toNat) (by omega))
 refine⟨_,_,_,by rw[aS g7];rfl,pw,hpw,⟨by omega,by omega⟩,s.mem.get (w / 8),by rw[Nat.mul_one];exact e7.hat hatw,?_⟩
 refine HC.mono (jP (hsg.words _)) ?_
 rintro v H8 ⟨k2,t2,a2,x2,m2,rfl,hof2,e8⟩
 refine⟨k2,t2,a2,x2,m2,rfl,?_⟩
 intro b4 H9 hb4 hH9
 obtain⟨p5,p6⟩:=fE (vs:=[.int .i64 k2,.int .i64 t2,.int .i64 a2,.int .i64 x2,.int .u64 m2]) hb4 hH9 rfl rfl
 refine⟨p5,λH10 hH10=>?_⟩
 obtain⟨g10,e10⟩:=p6 H10 hH10
 have e8_10:=e8.trans e10
 have e110:=e14.trans (e7.trans e8_10)
 have g10b:=e8_10.get g7
 have g10c:=(e7.trans e8_10).get g4
 have hof2':OfIs (s.mem.get (w / 8)) k2 t2 a2 x2 m2:=hof2
 obtain⟨hkh,hh2⟩:=hof2'.head
 refine⟨k2,by rw[aU g10];rfl,?_⟩
 by_cases h5:k2=5
 case neg=>rw[if_neg h5];exact no (λhh=>h5 (hkh.2 hh.2.1)) _ e110
 rw[if_pos h5]
 obtain⟨rfl,rfl,rfl⟩:=hh2 h5
 have hhd:=hkh.1 h5
 have hnb:0<=Go.Proofs.YtihdffpekpnglaaGreat.hn (s.mem.get (w / 8))/\Go.Proofs.YtihdffpekpnglaaGreat.hn (s.mem.get (w / 8))<=62:=by
  have:=hhd.2;unfold Go.Proofs.YtihdffpekpnglaaGreat.hn;omega
 refine⟨Go.Proofs.YtihdffpekpnglaaGreat.hn (s.mem.get (w / 8)),by rw[aS g10];rfl,_,_,_,by rw[aS g10b];rfl,?_⟩
 rw[w64 (by omega)]
 by_cases hfit:w / 8 % 64+Go.Proofs.YtihdffpekpnglaaGreat.hn (s.mem.get (w / 8))>=(((s.mem.seg (w / 8 / 64).toNat).n.toNat:Nat):Int)
 ·rw[if_pos hfit];exact no (λhh=>by have:=hh.2.2;omega) _ e110
 rw[if_neg hfit]
 have yes:(s.mem.seg (w / 8 / 64).toNat).kind=rawK (hk (s.mem.get (w / 8)))-> ∃x20:Int,hat H10 ((Addr.mk b2 0 none).add 2)=some (.int .i64 x20)/\
   ∃xK xT xA xX xM:Int,aG H10 (Addr.mk b4 0 none) 0 [.int .i64 xK,.int .i64 xT,.int .i64 xA,.int .i64 xX,.int .u64 xM]/\
   (aJ H10 (Addr.mk b 0 none) 0 5)/\ ∀H16:zW,H16=aP H10 (Addr.mk b 0 none) [.int .i64 xK,.int .i64 xT,.int .i64 xA,.int .i64 xX,.int .u64 xM] 0->
   ∃rK rT rA rX rM:Int,aG H16 (Addr.mk b 0 none) 0 [.int .i64 rK,.int .i64 rT,.int .i64 rA,.int .i64 rX,.int .u64 rM]/\
   R (.tuple #[.int .i64 x20,.agg #[.int .i64 rK,.int .i64 rT,.int .i64 rA,.int .i64 rX,.int .u64 rM]]) H16:=λhkd=>by
  refine⟨w / 8,by rw[aS g10c];rfl,_,_,_,_,_,bQ g10,?_⟩
  exact jc (R:=λv H'=>R (.tuple #[.int .i64 (w / 8),v]) H') (e110.get g1) rfl (e1.trans e110) (by omega) (λH' e'=>hR _ _ ⟨⟨_,_,_,_,_,_,rfl,.inl ⟨⟨⟨hadr,h3,hu.2.1,hkd,hu2⟩,hhd,by omega⟩,rfl,rfl,rfl,rfl⟩⟩,e'⟩)
 have noK:(s.mem.seg (w / 8 / 64).toNat).kind≠rawK (hk (s.mem.get (w / 8)))-> ¬s.mem.isObj w:=λhne hh=>hne hh.1.2.2.2.1
 refine⟨hk (s.mem.get (w / 8)),by rw[aS g10];rfl,?_⟩
 have k2at:hat H10 ((Addr.mk b3 0 none).add 2)=some (.int .i64 (s.mem.seg (w / 8 / 64).toNat).kind):=by rw[aS g10b];rfl
 by_cases ht2:hk (s.mem.get (w / 8))=2
 ·rw[if_pos ht2]
  have er:rawK (hk (s.mem.get (w / 8)))=3:=by unfold rawK;rw[if_pos (.inl ht2)]
  refine⟨_,by rw[fG];exact k2at,?_⟩
  by_cases hk3:(s.mem.seg (w / 8 / 64).toNat).kind=3
  ·rw[if_pos hk3];exact yes (by rw[er,hk3])
  ·rw[if_neg hk3];exact no (noK (by rw[er];exact hk3)) _ e110
 rw[if_neg ht2]
 refine⟨hk (s.mem.get (w / 8)),by rw[aS g10];rfl,?_⟩
 by_cases ht3:hk (s.mem.get (w / 8))=3
 ·rw[if_pos ht3]
  have er:rawK (hk (s.mem.get (w / 8)))=3:=by unfold rawK;rw[if_pos (.inr ht3)]
  refine⟨_,by rw[fG];exact k2at,?_⟩
  by_cases hk3:(s.mem.seg (w / 8 / 64).toNat).kind=3
  ·rw[if_pos hk3];exact yes (by rw[er,hk3])
  ·rw[if_neg hk3];exact no (noK (by rw[er];exact hk3)) _ e110
 rw[if_neg ht3]
 have er:rawK (hk (s.mem.get (w / 8)))=2:=by unfold rawK;rw[if_neg (by omega)]
 refine⟨_,by rw[fG];exact k2at,?_⟩
 by_cases hk3:(s.mem.seg (w / 8 / 64).toNat).kind=2
 ·rw[if_pos hk3];exact yes (by rw[er,hk3])
 ·rw[if_neg hk3];exact no (noK (by rw[er];exact hk3)) _ e110

def spo:Option (Blk×Hp)->Sp
 | none=>⟨Mem.fresh 0,λ_ _=>0⟩
 | some (_,x)=>x.sp
theorem kU{H:zW}{q:RB}{r:RM}{s:Sp}{ep w kind i:Int}(h:RHAt H q r s ep)(ok:cF s.mem)(hw:aM w)(hi:I64 i):
  bS.C (some ⟨q.h,0,none⟩) w kind i H (λv H'=>v=.tuple #[.int .i64 (if s.mem.fieldE w kind i=0 then w / 8+1+i else 0),.int .i64 (s.mem.fieldE w kind i)]/\Ext H H'):=by
 refine HC.via λR hR=>bS.link ?_
 unfold bS.pt zq
 refine HC.mono (iz h ok hw) ?_
 rintro v H1 ⟨⟨a,k,t,l,x,m,rfl,ho⟩,e1⟩
 refine⟨a,k,t,l,x,m,rfl,?_⟩
 intro b H2 hb hH2
 obtain⟨p1,p2⟩:=fE (vs:=[.int .i64 k,.int .i64 t,.int .i64 l,.int .i64 x,.int .u64 m]) hb hH2 rfl rfl
 refine⟨p1,λH3 hH3=>?_⟩
 obtain⟨g3,e3⟩:=p2 H3 hH3
 have e13:=e1.trans e3
 have hw0:=hw.1
 rcases ho with⟨hO,rfl,rfl,rfl,rfl⟩ | ⟨hO,rfl,rfl,rfl,rfl⟩
 case inr=>
  rw[if_pos (by omega)]
  rw[nothing hO,if_neg (by decide)]at hR
  exact hR _ _ ⟨rfl,e13⟩
 have hl:=hO.len_lt
 have hle:s.mem.len w=hn (s.mem.get (w / 8)):=by unfold Mem.len;rw[if_pos hO]
 have hty:s.mem.typ w=hk (s.mem.get (w / 8)):=by unfold Mem.typ;rw[if_pos hO]
 have hw8:w / 8<65536:=hO.1.1.2
 rw[if_neg (by omega)]
 refine⟨_,by rw[aS g3];rfl,?_⟩
 by_cases hk':hk (s.mem.get (w / 8))=kind
 case neg=>
  rw[if_neg hk']
  have e:s.mem.fieldE w kind i=3:=by unfold Mem.fieldE;rw[if_pos (.inr (by rw[hty];exact hk'))]
  rw[e,if_neg (by decide)]at hR
  exact hR _ _ ⟨rfl,e13⟩
 rw[if_pos hk']
 have n1: ¬(¬s.mem.isObj w\/s.mem.typ w≠kind):=by rw[hty];simp[hO,hk']
 by_cases h0:i<0
 ·rw[if_pos h0]
  have e:s.mem.fieldE w kind i=4:=by unfold Mem.fieldE;rw[if_neg n1,if_pos (.inl h0)]
  rw[e,if_neg (by decide)]at hR
  exact hR _ _ ⟨rfl,e13⟩
 rw[if_neg h0]
 refine⟨_,by rw[aS g3];rfl,?_⟩
 by_cases h1:i>=hn (s.mem.get (w / 8))
 ·rw[if_pos h1]
  have e:s.mem.fieldE w kind i=4:=by unfold Mem.fieldE;rw[if_neg n1,if_pos (.inr (by omega))]
  rw[e,if_neg (by decide)]at hR
  exact hR _ _ ⟨rfl,e13⟩
 rw[if_neg h1,w64 (n:=w / 8+1) (by omega),w64 (by omega)]
 have e:s.mem.fieldE w kind i=0:=by unfold Mem.fieldE;rw[if_neg n1,if_neg (by omega)]
 rw[e,if_pos rfl]at hR
 exact hR _ _ ⟨rfl,e13⟩
theorem Mem.field_used{m:Mem}{w kind i:Int}(ok:cF m)(hw:aM w)(h:m.fieldE w kind i=0):m.used (w / 8+1+i)/\I64 (w / 8+1+i):=by
 unfold Mem.fieldE at h
 by_cases h1: ¬m.isObj w\/m.typ w≠kind
 ·rw[if_pos h1]at h;exact absurd h (by decide)
 rw[if_neg h1]at h
 by_cases h2:i<0\/m.len w<=i
 ·rw[if_pos h2]at h;exact absurd h (by decide)
 have hO:m.isObj w:=Classical.byContradiction λhh=>h1 (.inl hh)
 have hl:=hO.len_lt
 have hle:m.len w=hn (m.get (w / 8)):=by unfold Mem.len;rw[if_pos hO]
 have hw8:w / 8<65536:=hO.1.1.2
 have hw0:=hw.1
 exact⟨hO.used hw (ok.seg _).n.2 ⟨by omega,by omega⟩,by constructor<;>omega⟩
theorem pe{H:zW}{q:RB}{r:RM}{s:Sp}{ep w kind i:Int}(h:RHAt H q r s ep)(ok:cF s.mem)(hw:aM w)(hi:I64 i):
  cV.C (some ⟨q.h,0,none⟩) w kind i H (λv H'=>v=.tuple #[.int .u64 (if s.mem.fieldE w kind i=0 then s.mem.get (w / 8+1+i)else 0),.int .i64 (s.mem.fieldE w kind i)]/\Ext H H'):=by
 refine HC.via λR hR=>cV.link ?_
 unfold cV.pt
 refine HC.mono (kU h ok hw hi) ?_
 rintro v H1 ⟨rfl,e1⟩
 refine⟨_,_,rfl,?_⟩
 by_cases h0:s.mem.fieldE w kind i=0
 case neg=>rw[if_neg h0];rw[if_neg h0]at hR;exact hR _ _ ⟨rfl,e1⟩
 rw[if_pos h0,if_pos h0]
 rw[if_pos h0]at hR
 have h1:=h.ext e1
 obtain⟨hu,hb⟩:=Mem.field_used ok hw h0
 refine⟨_,rfl,_,h1.hPtr,_,rfl,_,h1.cd.cPtr,_,rfl,_,h1.cd.sp.mPtr,?_⟩
 refine HC.mono (jz h1.cd.sp.mem ok hb) ?_
 rintro v H2 ⟨rfl,rfl⟩
 rw[if_pos hu,if_pos hu]
 rw[h0]at hR
 exact⟨_,_,rfl,hR _ _ ⟨rfl,e1⟩⟩
theorem pf{H:zW}{q:RB}{r:RM}{b:Blk}{x:Hp}{ep w kind i v:Int}(h:RHAt H q r x.sp ep)(ok:SpOK x.sp)(hw:aM w)(hi:I64 i)(hv:aM v):
  cU.C (some ⟨q.h,0,none⟩) w kind i v H (λu H'=>u=.int .i64 (setE (some (b,x)) w kind i v)/\RHAt H' q r (spo (setO (some (b,x)) w kind i v)) ep/\Fr (q.all r) H H'):=by
 refine HC.via λR hR=>cU.link ?_
 unfold cU.pt
 refine HC.mono (kU h ok.mem hw hi) ?_
 rintro _ H1 ⟨rfl,e1⟩
 refine⟨_,_,rfl,?_⟩
 have eE:setE (some (b,x)) w kind i v=if x.sp.mem.fieldE w kind i=0 then(x.sp.mem.store (w / 8+1+i) v).2 else x.sp.mem.fieldE w kind i:=rfl
 have eO:spo (setO (some (b,x)) w kind i v)={x.sp with mem:=if x.sp.mem.fieldE w kind i=0 then(x.sp.mem.store (w / 8+1+i) v).1 else x.sp.mem}:=rfl
 rw[eE,eO]at hR
 have h1:=h.ext e1
 by_cases h0:x.sp.mem.fieldE w kind i=0
 case neg=>
  rw[if_neg h0]
  rw[if_neg h0,if_neg h0]at hR
  exact hR _ _ ⟨rfl,h1,e1.fr⟩
 rw[if_pos h0,if_pos h0]
 rw[if_pos h0,if_pos h0]at hR
 obtain⟨hu,hb⟩:=Mem.field_used ok.mem hw h0
 refine⟨_,rfl,_,h1.hPtr,?_⟩
 refine HC.mono (kT h1.cd ok.mem hb hv) ?_
 rintro _ H2 ⟨rfl,c2,f2⟩
 have hlt:=h1.lt
 refine⟨_,rfl,hR _ _ ⟨rfl,⟨c2,f2.get h1.ne.2.2 h1.h,h1.ne⟩,e1.fr.trans (f2.mono λb hb _=>by simp[RB.all,hb])⟩⟩

theorem l8{H:zW}{q:RB}{r:RM}{s:Sp}{ep kind tag:Int}{lB:zY}{lN lC:Nat}{ws:List Int}(h:RHAt H q r s ep)(ok:SpOK s)(hsrc:cY H lB (wvs ws))(hlen:lN=ws.length)(hw: ∀w∈ws,aM w)
  (hd: ∀i,i∈blks lB->i ∉ q.all r) (ht:tag=1\/tag=2\/tag=3) (hl:ws.length<=1000):
  bF.C (some ⟨q.h,0,none⟩) kind tag lB lN lC H (λv H'=>v=.tuple #[.int .u64 (s.put kind tag ws).2.1,.int .i64 (s.put kind tag ws).2.2]/\ks H H' q r (s.put kind tag ws).1 ep/\Fr (q.all r) H H'):=by
 subst hlen
 refine HC.via λR hR=>bF.link ?_
 unfold bF.pt zq
 refine⟨_,rfl,_,h.hPtr,_,rfl,_,h.cd.cPtr,?_⟩
 refine HC.mono (nB h.cd.sp ok) ?_
 rintro _ H1 ⟨rfl,st,f1⟩
 refine⟨_,_,rfl,?_⟩
 obtain⟨r1,h1,hbm1,hbs1⟩:=h.step st f1
 have f1':Fr (q.all r) H H1:=f1.mono (λb hb _=>List.mem_cons_of_mem _ (List.mem_cons_of_mem _ hb))
 by_cases ha:(s.alloc 0 kind ws.length).2.2=0
 case neg=>
  rw[if_neg ha]
  have e:s.put kind tag ws=(s,0,(s.alloc 0 kind ws.length).2.2):=by unfold Sp.put;rw[if_neg ha]
  rw[e]at hR
  rw[Sp.alloc_fail ok ha]at h1
  exact hR _ _ ⟨rfl,⟨r1,h1,hbm1,hbs1⟩,f1'⟩
 rw[if_pos ha]
 obtain⟨ok2,gr⟩:=Sp.alloc_ok ok ha
 have e:s.put kind tag ws=({(s.alloc 0 kind ws.length).1 with mem:=(s.alloc 0 kind ws.length).1.mem.sets (s.alloc 0 kind ws.length).2.1 ws},iy tag (s.alloc 0 kind ws.length).2.1):=by unfold Sp.put;rw[if_pos ha]
 rw[e]at hR
 generalize hs':(s.alloc 0 kind ws.length).1=s' at*
 generalize ha':(s.alloc 0 kind ws.length).2.1=a at*
 have hlim:=ok.mem.lim
 obtain⟨a0,a1,a2⟩:=gr.addr
 have hsz:=f1.size
 have all1: ∀b∈q.all r1,b∈q.all r\/H.size<=b:=λb hb=>by
  have hb':b=q.h\/b=q.c\/b=q.sp\/b∈r1.bs:=by simpa[RB.all]using hb
  rcases hb' with rfl | rfl | rfl | hb
  ·exact .inl (by simp[RB.all])
  ·exact .inl (by simp[RB.all])
  ·exact .inl (by simp[RB.all])
  ·exact(hbs1 b hb).imp (λh=>by simp[RB.all,h]) id
 refine⟨λi H'=>(0<=i/\i<=ws.length)/\RHAt H' q r1 {s' with mem:=s'.mem.sets a (ws.take i.toNat)} ep/\Fr (q.all r) H H',λi _=>(ws.length-i).toNat,⟨by omega,by simpa[Mem.sets]using h1,f1'⟩,?_⟩
 rintro i H3 ⟨hi,h3,f3⟩
 by_cases hlt:i< (ws.length:Int)
 ·rw[if_pos hlt]
  have hiN:i.toNat<ws.length:=by omega
  cases lB with
  | none=>
   exfalso
   have e:wvs ws=[]:=hsrc
   have:ws.length=0:=by simpa[wvs]using congrArg List.length e
   omega
  | some la=>
   have hsrc3:aG H3 la 0 (wvs ws):=f3.rowAt (hd _ (by simp)) hsrc
   refine⟨_,h3.hPtr,_,rfl,_,h3.cd.cPtr,_,rfl,_,h3.cd.sp.mPtr,la,rfl,⟨hi.1,hlt⟩,ws[i.toNat],?_,?_⟩
   ·have:=gZ hsrc3 i.toNat (.int .u64 (ws[i.toNat])) (by simp[wvs,hiN])
    rw[Nat.mul_one];rw[Nat.zero_add]at this;exact this
   have hok3:cF (s'.mem.sets a (ws.take i.toNat)):=cF.sets _ ok2.mem a (λw hw'=>hw w (List.mem_of_mem_take hw'))
   rw[w64 (n:=a+i) (by omega),w64 (n:=i+1) (by omega)]
   refine HC.mono (kR h3.cd.sp.mem hok3 ⟨by omega,by omega⟩) ?_
   rintro _ H4 ⟨rfl,hm4,f4⟩
   have hsz3:=f3.size
   refine⟨_,rfl,⟨by omega,?_,f3.trans' f4 (λb hb _=>hb) (λb hb hlt=>(hbs1 b hb).elim (λh=>by simp[RB.all,h]) (λh=>by omega))⟩,by show((ws.length:Int)-(i+1)).toNat< ((ws.length:Int)-i).toNat;omega⟩
   have h4:=h3.withMem f4 (λb hb _=>hb) hm4
   have et:ws.take (i+1).toNat=ws.take i.toNat++[ws[i.toNat]]:=by
    rw[show(i+1).toNat=i.toNat+1 by omega,List.take_succ_eq_append_getElem hiN]
   have el:((ws.take i.toNat).length:Int)=i:=by rw[List.length_take];omega
   rw[et,Mem.sets_snoc,el]
   exact h4
 ·rw[if_neg hlt]
  have hie:i.toNat=ws.length:=by omega
  rw[hie,List.take_length]at h3
  refine HC.mono (kj (kind:=2) (tag:=tag) (a:=a) (x:=0) (more:=0) (by unfold kA;rw[if_neg (by decide),if_pos rfl];omega)) ?_
  rintro _ H5 ⟨rfl,e5⟩
  have ea:iy tag a=(a*8+tag,0):=by unfold iy;rw[if_neg (by omega),if_pos (by omega)]
  have er:iR 2 tag a 0 0=a*8+tag:=by unfold iR;rw[if_neg (by decide),if_pos rfl]
  rw[ea]at hR
  rw[er]
  exact⟨_,rfl,hR _ _ ⟨rfl,⟨r1,h3.ext e5,hbm1,hbs1⟩,f3.trans e5.fr⟩⟩
theorem jA{H:zW}{q:RB}{r:RM}{b:Blk}{x:Hp}{ep kind more:Int}{lB:zY}{lN lC:Nat}{ws:List Int}(h:RHAt H q r x.sp ep)(ok:SpOK x.sp)(hsrc:cY H lB (wvs ws))(hlen:lN=ws.length)(hw: ∀w∈ws,aM w)
  (hmo:aM more) (hl:ws.length<=1000000):
  aY.C (some ⟨q.h,0,none⟩) kind more lB lN lC H (λv H'=>v=.tuple #[.int .u64 (hZ (some (b,x)) kind more ws).1,.int .i64 (hZ (some (b,x)) kind more ws).2]/\ks H H' q r (spo (ii (some (b,x)) kind more ws)) ep/\Fr (q.all r) H H'):=by
 subst hlen
 refine HC.via λR hR=>aY.link ?_
 unfold aY.pt
 by_cases h1:(1<=kind/\kind<=13)/\more<281474976710656
 case neg=>
  rw[if_pos (by simp only[Bool.or_eq_true,decide_eq_true_eq];omega)]
  have e:hZ (some (b,x)) kind more ws=(0,1):=by unfold hZ;rw[if_pos h1]
  have e2:ii (some (b,x)) kind more ws=some (b,x):=by unfold ii;rw[if_pos h1]
  rw[e,e2]at hR
  exact hR _ _ ⟨rfl,.same h,Fr.refl _ _⟩
 rw[if_neg (by simp only[Bool.or_eq_true,decide_eq_true_eq];omega)]
 by_cases h2:62<ws.length
 ·rw[if_pos (by omega)]
  have e:hZ (some (b,x)) kind more ws=(0,6):=by unfold hZ;rw[if_neg (λhh=>hh h1),if_pos h2]
  have e2:ii (some (b,x)) kind more ws=some (b,x):=by unfold ii;rw[if_neg (λhh=>hh h1),if_pos h2]
  rw[e,e2]at hR
  exact hR _ _ ⟨rfl,.same h,Fr.refl _ _⟩
 rw[if_neg (by omega)]
 have hm0:=hmo.1
 refine HC.mono (kj (kind:=5) (tag:=kind) (a:=(ws.length:Int)) (x:=0) (more:=more) (by unfold kA;rw[if_neg (by decide),if_neg (by decide),if_neg (by decide),if_neg (by decide)];omega)) ?_
 rintro _ H1 ⟨rfl,e1⟩
 have er:iR 5 kind (ws.length:Int) 0 more=more*65536+ws.length*256+kind*8+5:=by unfold iR;rw[if_neg (by decide),if_neg (by decide),if_neg (by decide),if_neg (by decide)]
 rw[er]
 refine⟨_,rfl,?_⟩
 intro b4 H4 hb4 hH4
 have e14:=e1.trans (Ext.push' hH4)
 have g4:=aO hb4 hH4
 refine cZ (ys:=wvs ws) (xs:=[.int .u64 (more*65536+ws.length*256+kind*8+5)]) ⟨rfl,_,g4,rfl,Nat.le_refl _,rfl,λj hj=>?_⟩ (hsrc.ext e14) (by simp[wvs]) (gM ws) rfl (by omega) ?_
 ·have:j=0:=by omega
  subst this;rfl
 intro p5 c5 H5 o5 f5 hb5
 have hs1:=e1.size
 have f5':Ext H H5:=e14.fr_trans f5 (λi hi=>by simp at hi;omega)
 have h5:=h.ext f5'
 have hlt:=h.lt
 have hkk: ∀kk,kk=rawK kind->bF.C (some ⟨q.h,0,none⟩) kk 3 p5 (1+ws.length) c5 H5 (λv_2 H4=> ∃ra:Int,∃rb:Int,v_2=.tuple #[.int .u64 ra,.int .i64 rb]/\R (.tuple #[.int .u64 ra,.int .i64 rb]) H4):=by
  rintro kk rfl
  refine HC.mono (l8 (ws:=(more*65536+ws.length*256+kind*8+5)::ws) h5 ok o5.src (by simp;omega) (λw hw'=>?_) (λi hi hio=>?_) (by decide) (by simp;omega)) ?_
  ·rcases List.mem_cons.1 hw' with rfl | hw'
   ·exact⟨by omega,by omega⟩
   ·exact hw w hw'
  ·have h1':=hlt i hio
   rcases hb5 i hi with h | h
   ·simp at h;omega
   ·have:=(Ext.push' hH4).size;omega
  rintro _ H6 ⟨rfl,⟨r6,h6,hbm6,hbs6⟩,f6⟩
  refine⟨_,_,rfl,hR _ _ ⟨?_,⟨r6,?_,hbm6,λb hb=>(hbs6 b hb).imp id (λh=>by have:=f5'.size;omega)⟩,f5'.fr.trans f6⟩⟩
  ·unfold hZ;rw[if_neg (λhh=>hh h1),if_neg h2];rfl
  ·have e2:ii (some (b,x)) kind more ws=putO (some (b,x)) (rawK kind) 3 ((more*65536+ws.length*256+kind*8+5)::ws):=by unfold ii;rw[if_neg (λhh=>hh h1),if_neg h2]
   rw[e2];exact h6
 by_cases hk2:kind=2\/kind=3
 ·rw[if_pos (by simpa using hk2)]
  exact hkk 3 (by unfold rawK;rw[if_pos hk2])
 ·rw[if_neg (by simpa using hk2)]
  exact hkk 2 (by unfold rawK;rw[if_neg hk2])
