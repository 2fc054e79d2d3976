/- Printed: what each function asks, and that it is sound. -/
import Derived.Test.YtiebboaeaoobmaaGreatFnsC
set_option linter.unusedSimpArgs false
set_option linter.unusedVariables false
set_option maxRecDepth 100000
set_option maxHeartbeats 1000000
noncomputable section
namespace Go.Proofs.YtiebboaeaoobmaaGreat
open Go
/-! (*moraine/space.Space).Alloc -/
namespace cO
def K0:=Func.code Tryz.f53
end cO
def cO.pt(s:zW)(d b nv:Int)(H:zV)(R:zk):Prop:=
 cY.C s H (λv H1=> ∃x:Bool,v=.bool x/\
 if x=true then(
 R (.tuple #[.int .i64 0,.int .i64 1]) H1)
 else
 gX.C d b nv H1 (λae H2=> ∃o:Bool,ae=.bool o/\
 if o=true then(
 cJ.C s d b H2 (λz H3=> ∃(ra:Int) (rb:Bool),z=.tuple #[.int .i64 ra,.bool rb]/\
 ∃J:zV->Prop,(
 if rb=true then(
 ∃j:Addr,s=some j/\
 ∃u:zW,hat H3 j=some (.pointer u)/\
 eS.C u ra nv H3 (λaa H8=> ∃l m:Int,aa=.tuple #[.int .i64 l,.int .i64 m]/\
 if m=0 then(
 R (.tuple #[.int .i64 l,.int .i64 0]) H8)
 else
 J H8))
 else
 J H3)/\ ∀(H4:zV),J H4->
 ∃sA:Addr,s=some sA/\
 ∃y:zW,hat H4 sA=some (.pointer y)/\
 fC.C y d b H4 (λab H5=> ∃f g:Int,ab=.tuple #[.int .i64 f,.int .i64 g]/\
 if g=0 then(
 zw d 5/\
 zw b 4/\
 (aJ H5 (((sA.add 1).add (Int.toNat d*4)).add (Int.toNat b*1)) 0 1)/\ ∀H6,H6=aP H5 (((sA.add 1).add (Int.toNat d*4)).add (Int.toNat b*1)) [.int .i64 (zY (f+1))] 0->
 ∃r:zW,hat H6 sA=some (.pointer r)/\
 eS.C r f nv H6 (λac H7=> ∃q p:Int,ac=.tuple #[.int .i64 q,.int .i64 p]/\
 R (.tuple #[.int .i64 q,.int .i64 p]) H7))
 else
 R (.tuple #[.int .i64 0,.int .i64 g]) H5)))
 else
 R (.tuple #[.int .i64 0,.int .i64 1]) H2))
namespace cO
theorem link{s:zW}{d b nv:Int}{H:zV}{R:zk}(h:pt s d b nv H R):C s d b nv H R:=by
 refine T_en K0 77 Tryz.func53 ?_
 intro w0 Q hQ
 unfold pt zY at h
 refine T_su [(0,vp s),(1,vi d),(2,vi b),(3,vi nv)]<| ar 0<| T_ed 2 [] []<| T_sz<| ar 1<| T_nd 1 [] [(16,vp s)]<| T_c (some 17) h ?_;clear h
 rintro v H1 ⟨x,rfl,h⟩
 refine T_pd [16] [(17,.bool x)]<| T_nd 1 [17] [(18,.bool x)] ?_
 by_cases c1:x=true
 ·rw[if_pos c1]at h
  exact N_bd 18 c1<| T_ed 6 [18] [(24,.bool true)]<| T_tz 24<| ar 2<| T_nr 2 [8,9] [vi 0,vi 1] hQ h
 rw[if_neg c1]at h
 refine N_bd 18 (zZ c1)<| T_nd 3 [] [(19,vi d),(20,vi b),(21,vi nv)] ?_
 refine T_c (some 22) h ?_;clear h
 rintro ae H2 ⟨o,rfl,h⟩
 refine T_pd [19,20,21] [(22,.bool o)]<| T_ed 2 [18,22] [(24,.bool (!o))] ?_
 by_cases c3:o=true
 ·rw[if_pos c3]at h
  refine aI 24 (congrArg Bool.not (c3))<| T_kt<| T_sz<| ar 3<| T_nd 3 [24] [(26,vp s),(27,vi d),(28,vi b)]<| T_c (some 29) h ?_;clear h
  rintro z H3 ⟨ra,rb,rfl,h⟩
  refine T_pd [26,27,28] [(29,.tuple #[vi ra,.bool rb])]<| T_ed 5 [29] [(10,vi ra),(11,.bool rb)]<| ar 4<| T_ne 1 [(0,vp s),(1,vi d),(2,vi b),(3,vi nv),(10,vi ra),(32,.bool rb)] ?_
  obtain⟨J,h,j6⟩:=h
  refine nO (σ:=Unit) (λs_=> [(0,vp s),(1,vi d),(2,vi b),(3,vi nv)]) (λs_ H=>J H) ?_ ?_
  ·rintro _ H4 j7
   replace h:=j6 H4 j7
   refine T_su [(0,vp s),(1,vi d),(2,vi b),(3,vi nv)]<| aB<| ar 8<| T_nd 1 [] [(47,vp s)] ?_
   obtain⟨sA,rfl,h⟩:=h
   refine T_nd 2 [0,47] [(0,vp (some sA)),(49,vp (some sA))] ?_
   obtain⟨y,q8,h⟩:=h
   refine T_l1 50 103 q8 [49]<| T_nd 2 [] [(51,vi d),(52,vi b)]<| T_c (some 53) h ?_;clear h
   rintro ab H5 ⟨f,g,rfl,h⟩
   refine T_pd [50,51,52] [(53,.tuple #[vi f,vi g])]<| T_ed 5 [53] [(14,vi f),(15,vi g)]<| T_sz<| ar 9<| T_ed 2 [] [(57,.bool (g !=0))] ?_
   by_cases c9:g=0
   ·rw[if_pos c9]at h
    refine aI 57 (bne_eq_false_iff_eq.mpr c9)<| T_kt<| ar 11<| T_nd 7 [1,2,15,57] [(60,vi d),(61,vi b),(63,vi (zY (f+1))),(65,vp (some (sA.add 1)))] ?_
    obtain⟨q11,h⟩:=h
    refine T_v1 66 (aT 105 (vp (some (sA.add 1))) (vi d)) (vp (some ((sA.add 1).add (Int.toNat d*4)))) (λw _=>aR (P:=Tryz.prog) (t:=105) (elem:=104) (sz:=4) (n:=5) (a:=(sA.add 1)) (k:=.i64) (i:=d) Tryz.underlying105 (λ_=>by kernel_rfl) q11.1 q11.2 w) [60,65] ?_
    obtain⟨q12,h⟩:=h
    refine T_v1 67 (aT 104 (vp (some ((sA.add 1).add (Int.toNat d*4)))) (vi b)) (vp (some (((sA.add 1).add (Int.toNat d*4)).add (Int.toNat b*1)))) (λw _=>aR (P:=Tryz.prog) (t:=104) (elem:=3) (sz:=1) (n:=4) (a:=((sA.add 1).add (Int.toNat d*4))) (k:=.i64) (i:=b) Tryz.underlying104 (λ_=>by kernel_rfl) q12.1 q12.2 w) [61,66] ?_
    obtain⟨q14,h⟩:=h
    refine dV 3 (vi (zY (f+1))) q14 ?_
    intro H6 e13
    replace h:=h H6 e13
    refine T_pd [63,67] []<| T_e<| ar 12<| T_nd 3 [0] [(70,vp (some sA))] ?_
    obtain⟨r,q15,h⟩:=h
    refine T_l1 71 103 q15 [70]<| T_nd 2 [3,14] [(72,vi f),(73,vi nv)]<| T_c (some 74) h ?_;clear h
    rintro ac H7 ⟨q,p,rfl,h⟩
    refine⟨[(74,.tuple #[vi q,vi p])],pk,?_⟩
    exact T_nr 4 [8,9] [vi q,vi p] hQ h
   rw[if_neg c9]at h
   exact aH 57 (bne_iff_ne.mpr c9)<| ar 10<| T_nr 3 [8,9] [vi 0,vi g] hQ h
  by_cases c16:rb=true
  ·rw[if_pos c16]at h
   have b17:rb=true:=c16
   refine fl [(0,vp s),(1,vi d),(2,vi b),(3,vi nv),(10,vi ra),(32,.bool true)] (by simp only[b17,Bool.not_true,Bool.not_false]) ?_
   clear b17
   refine T_tz 32<| ar 5<| T_nd 1 [32] [(34,vp s)] ?_
   obtain⟨j,rfl,h⟩:=h
   refine T_nd 2 [0,34] [(0,vp (some j)),(36,vp (some j))] ?_
   obtain⟨u,q18,h⟩:=h
   refine T_l1 37 103 q18 [36]<| T_nd 2 [10] [(38,vi ra),(39,vi nv)]<| T_c (some 40) h ?_;clear h
   rintro aa H8 ⟨l,m,rfl,h⟩
   refine T_pd [37,38,39] [(40,.tuple #[vi l,vi m])]<| T_ed 5 [40] [(12,vi l),(13,vi m)]<| ar 6<| T_ed 2 [13] [(44,.bool (m==0))] ?_
   by_cases c19:m=0
   ·rw[if_pos c19]at h
    exact aH 44 (zK c19)<| ar 7<| T_nr 3 [8,9] [vi l,vi 0] hQ h
   rw[if_neg c19]at h
   exact aI 44 (zJ c19)<| T_kt<| jD (():Unit) sk h
  rw[if_neg c16]at h
  have b17:rb=false:=zZ c16
  refine fl [(0,vp s),(1,vi d),(2,vi b),(3,vi nv),(10,vi ra),(32,.bool false)] (by simp only[b17,Bool.not_true,Bool.not_false]) ?_
  clear b17
  exact T_fz 32<| T_kt<| jD (():Unit) sk h
 rw[if_neg c3]at h
 exact aH 24 (congrArg Bool.not (zZ c3))<| ar 2<| T_nr 2 [8,9] [vi 0,vi 1] hQ h
end cO

/-! moraine/space.New -/
namespace gW
def K0:=Func.code Tryz.f66
end gW
def gW.pt(a:Int)(H:zV)(R:zk):Prop:=
 iW.C a H (λv H1=> ∃(ra:zW) (rb:Int),v=.tuple #[.pointer ra,.int .i64 rb]/\
 if rb=0 then(
 ∀(b:Nat) (H2:zV),b=H1.size->H2=H1.push (.cells #[.pointer ra,.int .i64 0,.int .i64 0,.int .i64 0,.int .i64 0,.int .i64 0,.int .i64 0,.int .i64 0,.int .i64 0,.int .i64 0,.int .i64 0,.int .i64 0,.int .i64 0,.int .i64 0,.int .i64 0,.int .i64 0,.int .i64 0,.int .i64 0,.int .i64 0,.int .i64 0,.int .i64 0] 107)->
 R (.tuple #[.pointer (some (ad b)),.int .i64 0]) H2)
 else
 R (.tuple #[.pointer none,.int .i64 rb]) H1)
namespace gW
theorem link{a:Int}{H:zV}{R:zk}(h:pt a H R):C a H R:=by
 refine T_en K0 17 Tryz.func66 ?_
 intro w0 Q hQ
 unfold pt at h
 refine T_su [(0,vi a)]<| ar 0<| T_ed 2 [] []<| ar 1<| T_n 1 [(7,vi a)]<| T_c (some 8) h ?_;clear h
 rintro v H1 ⟨ra,rb,rfl,h⟩
 refine⟨[(8,.tuple #[vp ra,vi rb])],pk,?_⟩
 refine T_ne 5 [(4,vp ra),(5,vi rb)]<| T_sz<| ar 2<| T_ed 2 [] [(12,.bool (rb !=0))] ?_
 by_cases c1:rb=0
 ·rw[if_pos c1]at h
  refine aI 12 (bne_eq_false_iff_eq.mpr c1)<| T_kt<| ar 4<| T_n 2 [(15,.agg #[vp ra,vi 0,vi 0,vi 0,vi 0,vi 0,vi 0,vi 0,vi 0,vi 0,vi 0,vi 0,vi 0,vi 0,vi 0,vi 0,vi 0,vi 0,vi 0,vi 0,vi 0])]<| T_nw (some 16) (λb=>vp (pa b)) (.cells #[vp ra,vi 0,vi 0,vi 0,vi 0,vi 0,vi 0,vi 0,vi 0,vi 0,vi 0,vi 0,vi 0,vi 0,vi 0,vi 0,vi 0,vi 0,vi 0,vi 0,vi 0] 107) ?_
  intro b H2 e3 e4
  replace h:=h b H2 e3 e4
  refine⟨[(16,vp (pa b))],pk,?_⟩
  exact T_nr 2 [2,3] [vp (pa b),vi 0] hQ h
 rw[if_neg c1]at h
 exact aH 12 (bne_iff_ne.mpr c1)<| ar 3<| T_nr 3 [2,3] [vp none,vi rb] hQ h
end gW

/-! (*moraine/space.Space).none -/
namespace cY
def K0:=Func.code Tryz.f82
end cY
def cY.pt(s:zW)(H:zV)(R:zk):Prop:=
 eM s (
 R (.bool true) H) (λsA=>
 ∃x:zW,hat H sA=some (.pointer x)/\
 eM x (
 R (.bool true) H) (λxA=>
 R (.bool false) H))
namespace cY
theorem link{s:zW}{H:zV}{R:zk}(h:pt s H R):C s H R:=by
 refine T_en K0 12 Tryz.func82 ?_
 intro w0 Q hQ
 unfold pt at h
 refine T_su [(0,vp s)]<| ar 0<| T_ed 1 [] []<| ar 1<| T_nd 1 [] [(3,vp s)] ?_
 rcases s with _ | sA
 ·rw[onPtr_none]at h
  exact T_nr 9 [2] [.bool true] hQ h
 rw[onPtr_some]at h
 refine T_n 5 [(5,.bool false),(8,vp (some sA))] ?_
 obtain⟨x,q1,h⟩:=h
 refine T_l1 9 103 q1 [8] ?_
 rcases x with _ | xA
 ·rw[onPtr_none]at h
  exact T_nr 3 [2] [.bool true] hQ h
 rw[onPtr_some]at h
 exact T_nr 3 [2] [.bool false] hQ h
end cY

/-! moraine/space.may -/
namespace gX
def K0:=Func.code Tryz.f83
end gX
def gX.pt(b a nv:Int)(H:zV)(R:zk):Prop:=
 if((decide (b<0)) || (decide (b>4)))=true then(
 R (.bool false) H)
 else
 if((a==0) || (a==1))=true then(
 R (.bool (nv==2)) H)
 else
 R (.bool ((((a==2) || (a==3)) && (decide (nv>=1))) && (decide (nv<=63)))) H
namespace gX
theorem link{b a nv:Int}{H:zV}{R:zk}(h:pt b a nv H R):C b a nv H R:=by
 refine T_en K0 37 Tryz.func83 ?_
 intro w0 Q hQ
 unfold pt at h
 refine T_su [(0,vi b),(1,vi a),(2,vi nv)]<| ar 0<| T_ed 1 [] []<| T_sz<| T_bz 0<| ar 1 ?_
 refine gm [(1,vi a),(2,vi nv),(7,.bool ((decide (b<0)) || (decide (b>4))))] ?_ ?_
 ·refine aB ?_
  by_cases c3:((decide (b<0)) || (decide (b>4)))=true
  ·rw[if_pos c3]at h
   exact aH 7 c3<| ar 2<| T_nr 1 [6] [.bool false] hQ h
  rw[if_neg c3]at h
  refine aI 7 (zZ c3)<| ar 3 ?_
  refine gm [(1,vi a),(2,vi nv),(14,.bool ((a==0) || (a==1)))] ?_ ?_
  ·refine aB ?_
   by_cases c7:((a==0) || (a==1))=true
   ·rw[if_pos c7]at h
    exact aH 14 c7<| ar 4<| T_nr 3 [6] [.bool (nv==2)] hQ h
   rw[if_neg c7]at h
   refine aI 14 (zZ c7)<| T_k<| aC<| aB<| ar 5 ?_
   refine gm [(6,.bool ((((a==2) || (a==3)) && (decide (nv>=1))) && (decide (nv<=63))))] ?_ ?_
   ·exact aB<| gi [6] [.bool ((((a==2) || (a==3)) && (decide (nv>=1))) && (decide (nv<=63)))] hQ h
   intro hk
   refine T_n 3 [(1,vi a),(2,vi nv),(25,.bool (a==2))] ?_
   by_cases c9:a=2
   ·have b10:(a==2)=true:=zK c9
    refine bV [(1,vi a),(2,vi nv),(25,.bool true)] (by rw[b10]) ?_
    refine T_nd 8 [1,25] [(33,.bool (decide (nv>=1)))] ?_
    by_cases c11:nv>=1
    ·have b12:(decide (nv>=1))=true:=zX c11
     refine N_bd 33 b12<| T_n 4 [(6,.bool (decide (nv<=63)))] ?_
     refine zq<| fl [(6,.bool ((((a==2) || (a==3)) && (decide (nv>=1))) && (decide (nv<=63))))] (by simp only[b10,b12,BL]) ?_
     exact hk
    have b12:(decide (nv>=1))=false:=zQ c11
    refine N_bd 33 b12<| T_n 4 [(6,.bool false)] ?_
    refine zq<| fl [(6,.bool ((((a==2) || (a==3)) && (decide (nv>=1))) && (decide (nv<=63))))] (by simp only[b10,b12,BL]) ?_
    exact hk
   have b10:(a==2)=false:=zJ c9
   refine bV [(1,vi a),(2,vi nv),(25,.bool false)] (by rw[b10]) ?_
   refine T_nd 4 [1,25] [(29,.bool (a==3))] ?_
   by_cases c13:a=3
   ·have b14:(a==3)=true:=zK c13
    refine N_bd 29 b14<| T_nd 4 [29] [(33,.bool (decide (nv>=1)))] ?_
    by_cases c15:nv>=1
    ·have b16:(decide (nv>=1))=true:=zX c15
     refine N_bd 33 b16<| T_n 4 [(6,.bool (decide (nv<=63)))] ?_
     refine zq<| fl [(6,.bool ((((a==2) || (a==3)) && (decide (nv>=1))) && (decide (nv<=63))))] (by simp only[b10,b14,b16,BL]) ?_
     exact hk
    have b16:(decide (nv>=1))=false:=zQ c15
    refine N_bd 33 b16<| T_n 4 [(6,.bool false)] ?_
    refine zq<| fl [(6,.bool ((((a==2) || (a==3)) && (decide (nv>=1))) && (decide (nv<=63))))] (by simp only[b10,b14,b16,BL]) ?_
    exact hk
   have b14:(a==3)=false:=zJ c13
   refine N_bd 29 b14<| T_n 8 [(6,.bool false)] ?_
   refine zq<| fl [(6,.bool ((((a==2) || (a==3)) && (decide (nv>=1))) && (decide (nv<=63))))] (by simp only[b10,b14,BL]) ?_
   exact hk
  intro hk
  refine T_n 3 [(1,vi a),(2,vi nv),(17,.bool (a==0))] ?_
  by_cases c5:a=0
  ·have b6:(a==0)=true:=zK c5
   refine bV [(1,vi a),(2,vi nv),(17,.bool true)] (by rw[b6]) ?_
   refine T_nd 4 [17] [(14,.bool true)]<| zq<| S_bd 14 (b:=true) (v:=((a==0) || (a==1))) (by simp only[b6,BL]) ?_
   exact hk
  have b6:(a==0)=false:=zJ c5
  refine bV [(1,vi a),(2,vi nv),(17,.bool false)] (by rw[b6]) ?_
  refine T_nd 4 [17] [(14,.bool (a==1))]<| zq<| S_bd 14 (b:=(a==1)) (v:=((a==0) || (a==1))) (by simp only[b6,BL]) ?_
  exact hk
 intro hk
 refine T_n 3 [(0,vi b),(1,vi a),(2,vi nv),(10,.bool (decide (b<0)))] ?_
 by_cases c1:b<0
 ·have b2:(decide (b<0))=true:=zX c1
  refine bV [(0,vi b),(1,vi a),(2,vi nv),(10,.bool true)] (by rw[b2]) ?_
  refine T_nd 4 [0,10] [(7,.bool true)]<| zq<| S_bd 7 (b:=true) (v:=((decide (b<0)) || (decide (b>4)))) (by simp only[b2,BL]) ?_
  exact hk
 have b2:(decide (b<0))=false:=zQ c1
 refine bV [(0,vi b),(1,vi a),(2,vi nv),(10,.bool false)] (by rw[b2]) ?_
 refine T_nd 4 [0,10] [(7,.bool (decide (b>4)))]<| zq<| S_bd 7 (b:=(decide (b>4))) (v:=((decide (b<0)) || (decide (b>4)))) (by simp only[b2,BL]) ?_
 exact hk
end gX

/-! (*moraine/space.Space).Current -/
namespace cJ
def K0:=Func.code Tryz.f84
end cJ
def cJ.pt(s:zW)(d b:Int)(H:zV)(R:zk):Prop:=
 eM s (
 R (.tuple #[.int .i64 0,.bool false]) H) (λsA=>
 if d<0 then(
 R (.tuple #[.int .i64 0,.bool false]) H)
 else
 if d>4 then(
 R (.tuple #[.int .i64 0,.bool false]) H)
 else
 if b<0 then(
 R (.tuple #[.int .i64 0,.bool false]) H)
 else
 if b>3 then(
 R (.tuple #[.int .i64 0,.bool false]) H)
 else
 zw d 5/\
 zw b 4/\
 ∃x:Int,hat H (((sA.add 1).add (Int.toNat d*4)).add (Int.toNat b*1))=some (.int .i64 x)/\
 if x=0 then(
 R (.tuple #[.int .i64 0,.bool false]) H)
 else
 zw d 5/\
 zw b 4/\
 ∃f:Int,hat H (((sA.add 1).add (Int.toNat d*4)).add (Int.toNat b*1))=some (.int .i64 f)/\
 R (.tuple #[.int .i64 (zY (f-1)),.bool true]) H)
namespace cJ
theorem link{s:zW}{d b:Int}{H:zV}{R:zk}(h:pt s d b H R):C s d b H R:=by
 refine T_en K0 46 Tryz.func84 ?_
 intro w0 Q hQ
 unfold pt zY at h
 refine T_su [(0,vp s),(1,vi d),(2,vi b)]<| ar 0<| T_ed 2 [] []<| T_sz<| ar 1<| T_nd 1 [] [(8,vp s)] ?_
 rcases s with _ | sA
 ·rw[onPtr_none]at h
  exact T_ed 28 [0,8] [(0,vp none),(36,.bool true)]<| T_tz 36<| ar 2<| T_nr 2 [6,7] [vi 0,.bool false] hQ h
 rw[onPtr_some]at h
 refine T_nd 6 [0,8] [(0,vp (some sA)),(14,.bool (decide (d<0)))] ?_
 by_cases c1:d<0
 ·rw[if_pos c1]at h
  exact N_bd 14 (zX c1)<| T_ed 22 [14] [(36,.bool true)]<| T_tz 36<| ar 2<| T_nr 2 [6,7] [vi 0,.bool false] hQ h
 rw[if_neg c1]at h
 refine N_bd 14 (zQ c1)<| T_nd 4 [14] [(18,.bool (decide (d>4)))] ?_
 by_cases c3:d>4
 ·rw[if_pos c3]at h
  exact N_bd 18 (zX c3)<| T_ed 18 [18] [(36,.bool true)]<| T_tz 36<| ar 2<| T_nr 2 [6,7] [vi 0,.bool false] hQ h
 rw[if_neg c3]at h
 refine N_bd 18 (zQ c3)<| T_nd 4 [18] [(22,.bool (decide (b<0)))] ?_
 by_cases c5:b<0
 ·rw[if_pos c5]at h
  exact N_bd 22 (zX c5)<| T_ed 14 [22] [(36,.bool true)]<| T_tz 36<| ar 2<| T_nr 2 [6,7] [vi 0,.bool false] hQ h
 rw[if_neg c5]at h
 refine N_bd 22 (zQ c5)<| T_nd 4 [22] [(26,.bool (decide (b>3)))] ?_
 by_cases c7:b>3
 ·rw[if_pos c7]at h
  exact N_bd 26 (zX c7)<| T_ed 10 [26] [(36,.bool true)]<| T_tz 36<| ar 2<| T_nr 2 [6,7] [vi 0,.bool false] hQ h
 rw[if_neg c7]at h
 refine N_bd 26 (zQ c7)<| T_nd 5 [] [(28,vi d),(29,vi b),(31,vp (some (sA.add 1)))] ?_
 obtain⟨q9,h⟩:=h
 refine T_v1 32 (aT 105 (vp (some (sA.add 1))) (vi d)) (vp (some ((sA.add 1).add (Int.toNat d*4)))) (λw _=>aR (P:=Tryz.prog) (t:=105) (elem:=104) (sz:=4) (n:=5) (a:=(sA.add 1)) (k:=.i64) (i:=d) Tryz.underlying105 (λ_=>by kernel_rfl) q9.1 q9.2 w) [28,31] ?_
 obtain⟨q10,h⟩:=h
 refine T_v1 33 (aT 104 (vp (some ((sA.add 1).add (Int.toNat d*4)))) (vi b)) (vp (some (((sA.add 1).add (Int.toNat d*4)).add (Int.toNat b*1)))) (λw _=>aR (P:=Tryz.prog) (t:=104) (elem:=3) (sz:=1) (n:=4) (a:=((sA.add 1).add (Int.toNat d*4))) (k:=.i64) (i:=b) Tryz.underlying104 (λ_=>by kernel_rfl) q10.1 q10.2 w) [29,32] ?_
 obtain⟨x,q11,h⟩:=h
 refine T_l1 34 3 q11 [33]<| T_ed 2 [26,34] [(36,.bool (x==0))] ?_
 by_cases c12:x=0
 ·rw[if_pos c12]at h
  exact aH 36 (zK c12)<| ar 2<| T_nr 2 [6,7] [vi 0,.bool false] hQ h
 rw[if_neg c12]at h
 refine aI 36 (zJ c12)<| T_kt<| ar 3<| T_n 5 [(38,vi d),(39,vi b),(41,vp (some (sA.add 1)))] ?_
 obtain⟨q14,h⟩:=h
 refine T_v1 42 (aT 105 (vp (some (sA.add 1))) (vi d)) (vp (some ((sA.add 1).add (Int.toNat d*4)))) (λw _=>aR (P:=Tryz.prog) (t:=105) (elem:=104) (sz:=4) (n:=5) (a:=(sA.add 1)) (k:=.i64) (i:=d) Tryz.underlying105 (λ_=>by kernel_rfl) q14.1 q14.2 w) [38,41] ?_
 obtain⟨q15,h⟩:=h
 refine T_v1 43 (aT 104 (vp (some ((sA.add 1).add (Int.toNat d*4)))) (vi b)) (vp (some (((sA.add 1).add (Int.toNat d*4)).add (Int.toNat b*1)))) (λw _=>aR (P:=Tryz.prog) (t:=104) (elem:=3) (sz:=1) (n:=4) (a:=((sA.add 1).add (Int.toNat d*4))) (k:=.i64) (i:=b) Tryz.underlying104 (λ_=>by kernel_rfl) q15.1 q15.2 w) [39,42] ?_
 obtain⟨f,q16,h⟩:=h
 exact T_l1 44 3 q16 [43]<| T_nr 3 [6,7] [vi (zY (f-1)),.bool true] hQ h
end cJ

/-! moraine/card.New -/
namespace ip
def K0:=Func.code Tryz.f40
end ip
def ip.pt(a:Int)(H:zV)(R:zk):Prop:=
 gW.C a H (λv H1=> ∃(ra:zW) (rb:Int),v=.tuple #[.pointer ra,.int .i64 rb]/\
 if rb=0 then(
 ∀(b:Nat) (H2:zV),b=H1.size->H2=H1.push (.cells #[.pointer ra] 101)->
 R (.tuple #[.pointer (some (ad b)),.int .i64 0]) H2)
 else
 R (.tuple #[.pointer none,.int .i64 rb]) H1)
namespace ip
theorem link{a:Int}{H:zV}{R:zk}(h:pt a H R):C a H R:=by
 refine T_en K0 17 Tryz.func40 ?_
 intro w0 Q hQ
 unfold pt at h
 refine T_su [(0,vi a)]<| ar 0<| T_ed 2 [] []<| ar 1<| T_n 1 [(7,vi a)]<| T_c (some 8) h ?_;clear h
 rintro v H1 ⟨ra,rb,rfl,h⟩
 refine⟨[(8,.tuple #[vp ra,vi rb])],pk,?_⟩
 refine T_ne 5 [(4,vp ra),(5,vi rb)]<| T_sz<| ar 2<| T_ed 2 [] [(12,.bool (rb !=0))] ?_
 by_cases c1:rb=0
 ·rw[if_pos c1]at h
  refine aI 12 (bne_eq_false_iff_eq.mpr c1)<| T_kt<| ar 4<| T_n 2 [(15,.agg #[vp ra])]<| T_nw (some 16) (λb=>vp (pa b)) (.cells #[vp ra] 101) ?_
  intro b H2 e3 e4
  replace h:=h b H2 e3 e4
  refine⟨[(16,vp (pa b))],pk,?_⟩
  exact T_nr 2 [2,3] [vp (pa b),vi 0] hQ h
 rw[if_neg c1]at h
 exact aH 12 (bne_iff_ne.mpr c1)<| ar 3<| T_nr 3 [2,3] [vp none,vi rb] hQ h
end ip

/-! (*moraine/card.Cards).Store -/
namespace cZ
def K0:=Func.code Tryz.f95
def K2:=cb K0
def K4:=cb K2
def K12:=cb K4
def K20:=cb K12
def K22:=cb K20
def K23:=ca K22
end cZ
def cZ.pt(c:zW)(d wv:Int)(H:zV)(R:zk):Prop:=
 cK.C c H (λv H1=> ∃x:Bool,v=.bool x/\
 if x=true then(
 R (.int .i64 18) H1)
 else
 ∃cA:Addr,c=some cA/\
 ∃al:zW,hat H1 cA=some (.pointer al)/\
 ∃ak:Addr,al=some ak/\
 ∃ag:zW,hat H1 ak=some (.pointer ag)/\
 cH.C ag d wv H1 (λau H2=> ∃ab:Int,au=.int .i64 ab/\
 if ab=0 then(
 ∃aj:zW,hat H2 cA=some (.pointer aj)/\
 ∃am:Addr,aj=some am/\
 ∃af:zW,hat H2 am=some (.pointer af)/\
 bI.C af (zY (Int.tdiv d 64)) H2 (λao H3=> ∃(aa s ae p q m o:Int) (rb:Bool),ao=.tuple #[.agg #[.int .i64 aa,.int .i64 s,.int .i64 ae,.int .i64 p,.int .i64 q,.int .i64 m,.int .i64 o],.bool rb]/\
 ∀(b:Nat) (H4:zV),b=H3.size->H4=H3.push (.cells #[.int .i64 0,.int .i64 0,.int .i64 0,.int .i64 0,.int .i64 0,.int .i64 0,.int .i64 0] 158)->
 (aJ H4 (ad b) 0 7)/\ ∀H5,H5=aP H4 (ad b) [.int .i64 aa,.int .i64 s,.int .i64 ae,.int .i64 p,.int .i64 q,.int .i64 m,.int .i64 o] 0->
 ∃an:zW,hat H5 cA=some (.pointer an)/\
 ∃z:Addr,an=some z/\
 ∃u:zW,hat H5 z=some (.pointer u)/\
 ∃y r xN g f l j:Int,aL H5 (ad b) 0 [.int .i64 y,.int .i64 r,.int .i64 xN,.int .i64 g,.int .i64 f,.int .i64 l,.int .i64 j]/\
 ((0:Int)<=(zY (Int.tdiv (Int.tmod d 64) 16))/\(zY (Int.tdiv (Int.tmod d 64) 16))< (4:Int))/\
 ∃ah:Int,hat H5 (((ad b).add 3).add (Int.toNat (zY (Int.tdiv (Int.tmod d 64) 16))*1))=some (.int .i64 ah)/\
 cI.C (some cA) y r xN g f l j wv ah H5 (λap H6=> ∃ai:Int,ap=.int .i64 ai/\aL H6 cA 0 [.pointer (some z)]/\aL H6 z 0 [.pointer u]/\
 eY.C u (zY (Int.tdiv d 64)) (zY (Int.tdiv (Int.tmod d 64) 16)) ai H6 (λaq H7=> ∃ac:Int,aq=.int .i64 ac/\
 R (.int .i64 ac) H7))))
 else
 R (.int .i64 ab) H2))
namespace cZ
theorem link{c:zW}{d wv:Int}{H:zV}{R:zk}(h:pt c d wv H R):C c d wv H R:=by
 refine T_en K0 62 Tryz.func95 ?_
 intro w0 Q hQ
 unfold pt zY at h
 refine T_su [(0,vp c),(1,vi d),(2,vu wv)]<| ar 0<| T_ed 1 [] []<| T_sz<| ar 1<| T_nd 1 [] [(12,vp c)]<| T_c (some 13) h ?_;clear h
 rintro v H1 ⟨x,rfl,h⟩
 refine T_pd [12] [(13,.bool x)]<| T_e ?_
 by_cases c1:x=true
 ·rw[if_pos c1]at h
  exact aH 13 c1<| ar 2<| T_nr 1 [6] [vi 18] hQ h
 rw[if_neg c1]at h
 refine aI 13 (zZ c1)<| T_kt<| T_sz<| ar 3<| T_nd 1 [13] [(14,vp c)] ?_
 obtain⟨cA,rfl,h⟩:=h
 refine T_nd 2 [0,14] [(0,vp (some cA)),(16,vp (some cA))] ?_
 obtain⟨al,q3,h⟩:=h
 refine T_l1 17 99 q3 [16] ?_
 obtain⟨ak,rfl,h⟩:=h
 refine T_nd 2 [17] [(19,vp (some ak))] ?_
 obtain⟨ag,q4,h⟩:=h
 refine T_l1 20 103 q4 [19]<| T_nd 2 [] [(21,vi d),(22,vu wv)]<| T_c (some 23) h ?_;clear h
 rintro au H2 ⟨ab,rfl,h⟩
 refine T_pd [20,21,22] [(23,vi ab)]<| T_ed 1 [23] [(7,vi ab)]<| ar 4<| T_ed 2 [] [(25,.bool (ab !=0))] ?_
 by_cases c5:ab=0
 ·rw[if_pos c5]at h
  refine aI 25 (bne_eq_false_iff_eq.mpr c5)<| T_kt<| ar 6<| T_ed 7 [1,7,25] [(8,vi (zY (Int.tdiv d 64))),(9,vi (zY (Int.tdiv (Int.tmod d 64) 16)))]<| ar 7<| T_nd 3 [] [(35,vp (some cA))] ?_
  obtain⟨aj,q7,h⟩:=h
  refine T_l1 36 99 q7 [35] ?_
  obtain⟨am,rfl,h⟩:=h
  refine T_nd 2 [36] [(38,vp (some am))] ?_
  obtain⟨af,q8,h⟩:=h
  refine T_l1 39 103 q8 [38]<| T_nd 1 [] [(40,vi (zY (Int.tdiv d 64)))]<| T_c (some 41) h ?_;clear h
  rintro ao H3 ⟨aa,s,ae,p,q,m,o,rb,rfl,h⟩
  refine T_pd [39,40] [(41,.tuple #[.agg #[vi aa,vi s,vi ae,vi p,vi q,vi m,vi o],.bool rb])]<| T_nd 3 [41] [(42,.agg #[vi aa,vi s,vi ae,vi p,vi q,vi m,vi o]),(43,.bool rb)]<| T_nw (some 10) (λb=>vp (pa b)) (.cells #[vi 0,vi 0,vi 0,vi 0,vi 0,vi 0,vi 0] 158) ?_
  intro b H4 e9 e10
  replace h:=h b H4 e9 e10
  refine T_pd [] [(10,vp (pa b))] ?_
  obtain⟨q12,h⟩:=h
  refine fm 158 [vi aa,vi s,vi ae,vi p,vi q,vi m,vi o] q12 ?_
  intro H5 e11
  replace h:=h H5 e11
  refine T_pd [42] []<| T_ed 1 [43] []<| T_sz ?_
  obtain⟨an,q13,z,rfl,u,q14,y,r,xN,g,f,l,j,q15,q16,ah,q17,h⟩:=h
  refine yz 8 (Code.ops K23) [(17,cA,[vp (some z)]),(17,z,[vp u]),(16,(ad b),[vi y,vi r,vi xN,vi g,vi f,vi l,vi j]),(16,(((ad b).add 3).add (Int.toNat (zY (Int.tdiv (Int.tmod d 64) 16))*1)),[vi ah])] 19 (bv 19 0) (show aE _ _ _ from⟨⟨q13,trivial⟩,⟨q14,trivial⟩,q15,⟨q17,trivial⟩,trivial⟩)<| T_gp 0 (some 44) (vp (some cA)) (bv 19 1) [(0,vp (some cA)),(2,vu wv),(8,vi (zY (Int.tdiv d 64))),(9,vi (zY (Int.tdiv (Int.tmod d 64) 16))),(10,vp (pa b)),(44,vp (some cA))]<| aD 1 45 (vp (some cA)) (bv 19 3) [44]<| aD 2 46 (vp (some cA)) (bv 19 7) [45]<| T_g1 3 47 (vp (some z)) (bv 19 15) [46] (aM 99 (vp (some cA))) (yx 17 yZ)<| aD 4 48 (vp (some z)) (bv 19 31) [47]<| aD 5 49 (vp (some z)) (bv 19 63) [48]<| T_g1 6 50 (vp u) (bv 19 127) [49] (aM 103 (vp (some z))) (yx 17 yX)<| aD 7 51 (vi (zY (Int.tdiv d 64))) (bv 19 255) [8]<| aD 8 52 (vi (zY (Int.tdiv (Int.tmod d 64) 16))) (bv 19 511) []<| aD 9 53 (vp (some cA)) (bv 19 1023) [0]<| T_g1 10 54 (.agg #[vi y,vi r,vi xN,vi g,vi f,vi l,vi j]) (bv 19 2047) [] (aM 158 (vp (pa b))) (dU 16 (λ_=>by kernel_rfl) (λ_=>by kernel_rfl) yQ (.inl (by kernel_rfl)))<| aD 11 55 (vu wv) (bv 19 4095) [2]<| aD 12 56 (vi (zY (Int.tdiv (Int.tmod d 64) 16))) (bv 19 8191) [9]<| aD 13 57 (vp (some ((ad b).add 3))) (bv 19 16383) [10]<| T_g1 14 58 (vp (some (((ad b).add 3).add (Int.toNat (zY (Int.tdiv (Int.tmod d 64) 16))*1)))) (bv 19 32767) [56,57] (aT 104 (vp (some ((ad b).add 3))) (vi (zY (Int.tdiv (Int.tmod d 64) 16)))) (λ_ w _ _ _=>aR (P:=Tryz.prog) (t:=104) (elem:=3) (sz:=1) (n:=4) (a:=((ad b).add 3)) (k:=.i64) (i:=(zY (Int.tdiv (Int.tmod d 64) 16))) Tryz.underlying104 (λ_=>by kernel_rfl) q16.1 q16.2 w)<| T_g1 15 59 (vi ah) (bv 19 65535) [58] (aM 3 (vp (some (((ad b).add 3).add (Int.toNat (zY (Int.tdiv (Int.tmod d 64) 16))*1))))) (yx 16 yJ)<| yj 16 (some 60) (bv 19 131071) 127 #[vp (some cA),.agg #[vi y,vi r,vi xN,vi g,vi f,vi l,vi j],vu wv,vi ah] h ?_;clear h
  rintro ap H6 ⟨ai,rfl,f18,f19,h⟩
  refine⟨[(50,vp u),(51,vi (zY (Int.tdiv d 64))),(52,vi (zY (Int.tdiv (Int.tmod d 64) 16))),(60,vi ai)],pk,(show aE _ _ _ from⟨f18,f19,trivial,trivial,trivial⟩),?_⟩
  refine yj 17 (some 61) (bv 19 262143) 126 #[vp u,vi (zY (Int.tdiv d 64)),vi (zY (Int.tdiv (Int.tmod d 64) 16)),vi ai] h ?_;clear h
  rintro aq H7 ⟨ac,rfl,h⟩
  refine⟨[(61,vi ac)],pk,(show aE _ _ _ from⟨trivial,trivial,trivial,trivial,trivial⟩),?_⟩
  exact T_g 18 (some 6) (vi ac) (bv 19 524287) [(6,vi ac)] (pure (.value (vi ac)):Sem Next) (λ_ _ _ _ _=>rfl)<| dp [(6,vi ac)] sk<| yv<| aB<| gi [6] [vi ac] hQ h
 rw[if_neg c5]at h
 exact aH 25 (bne_iff_ne.mpr c5)<| ar 5<| T_nr 2 [6] [vi ab] hQ h
end cZ

/-! (*moraine/card.Cards).none -/
namespace cK
def K0:=Func.code Tryz.f125
end cK
def cK.pt(c:zW)(H:zV)(R:zk):Prop:=
 eM c (
 R (.bool true) H) (λcA=>
 ∃x:zW,hat H cA=some (.pointer x)/\
 eM x (
 R (.bool true) H) (λxA=>
 ∃d:zW,hat H cA=some (.pointer d)/\
 ∃b:Addr,d=some b/\
 ∃a:zW,hat H b=some (.pointer a)/\
 eM a (
 R (.bool true) H) (λf=>
 R (.bool false) H)))
namespace cK
theorem link{c:zW}{H:zV}{R:zk}(h:pt c H R):C c H R:=by
 refine T_en K0 22 Tryz.func125 ?_
 intro w0 Q hQ
 unfold pt at h
 refine T_su [(0,vp c)]<| ar 0<| T_ed 1 [] []<| ar 1<| T_nd 1 [] [(3,vp c)] ?_
 rcases c with _ | cA
 ·rw[onPtr_none]at h
  exact T_nr 19 [2] [.bool true] hQ h
 rw[onPtr_some]at h
 refine T_n 5 [(0,vp (some cA)),(5,.bool false),(8,vp (some cA))] ?_
 obtain⟨x,q1,h⟩:=h
 refine T_l1 9 99 q1 [8] ?_
 rcases x with _ | xA
 ·rw[onPtr_none]at h
  exact T_nr 13 [2] [.bool true] hQ h
 rw[onPtr_some]at h
 refine T_n 6 [(12,.bool false),(15,vp (some cA))] ?_
 obtain⟨d,q2,h⟩:=h
 refine T_l1 16 99 q2 [15] ?_
 obtain⟨b,rfl,h⟩:=h
 refine T_nd 2 [16] [(18,vp (some b))] ?_
 obtain⟨a,q3,h⟩:=h
 refine T_l1 19 103 q3 [18] ?_
 rcases a with _ | f
 ·rw[onPtr_none]at h
  exact T_nr 3 [2] [.bool true] hQ h
 rw[onPtr_some]at h
 exact T_nr 3 [2] [.bool false] hQ h
end cK

/-! (*moraine/card.Cards).younger -/
namespace cI
def K0:=Func.code Tryz.f127
end cI
def cI.pt(c:zW)(l j sN d g i f wv a:Int)(H:zV)(R:zk):Prop:=
 ∀(b:Nat) (H1:zV),b=H.size->H1=H.push (.cells #[.int .i64 l,.int .i64 j,.int .i64 sN,.int .i64 d,.int .i64 g,.int .i64 i,.int .i64 f] 158)->
 eu.C c wv H1 (λv H2=> ∃(ra:Int) (rb:Bool),v=.tuple #[.int .i64 ra,.bool rb]/\
 if rb=true then(
 ∃x:Int,hat H2 ((ad b).add 1)=some (.int .i64 x)/\
 if x=3 then(
 R (.int .i64 a) H2)
 else
 ∃k:Int,hat H2 (ad b)=some (.int .i64 k)/\
 if ra<k then(
 R (.int .i64 (if ra<a then ra else a)) H2)
 else
 R (.int .i64 a) H2)
 else
 R (.int .i64 a) H2)
namespace cI
theorem link{c:zW}{l j sN d g i f wv a:Int}{H:zV}{R:zk}(h:pt c l j sN d g i f wv a H R):C c l j sN d g i f wv a H R:=by
 refine T_en K0 33 Tryz.func127 ?_
 intro w0 Q hQ
 unfold pt at h
 refine T_su [(0,vp c),(1,.agg #[vi l,vi j,vi sN,vi d,vi g,vi i,vi f]),(2,vu wv),(3,vi a)]<| ar 0<| T_nw (some 5) (λb=>vp (pa b)) (.cells #[vi l,vi j,vi sN,vi d,vi g,vi i,vi f] 158) ?_
 intro b H1 e1 e2
 replace h:=h b H1 e1 e2
 refine T_pd [1] [(5,vp (pa b))]<| T_ed 1 [] []<| T_sz<| ar 1<| T_nd 2 [0,2] [(12,vp c),(13,vu wv)]<| T_c (some 14) h ?_;clear h
 rintro v H2 ⟨ra,rb,rfl,h⟩
 refine T_pd [12,13] [(14,.tuple #[vi ra,.bool rb])]<| T_ed 5 [14] [(9,vi ra),(10,.bool rb)]<| ar 2<| T_nd 2 [10] [(18,.bool rb)] ?_
 by_cases c3:rb=true
 ·rw[if_pos c3]at h
  refine N_bd 18 c3<| T_nd 1 [] [(19,vp (some ((ad b).add 1)))] ?_
  obtain⟨x,q5,h⟩:=h
  refine T_l1 20 3 q5 [19]<| T_nd 3 [18,20] [(23,.bool (x !=3))] ?_
  by_cases c6:x=3
  ·rw[if_pos c6]at h
   exact N_bd 23 (bne_eq_false_iff_eq.mpr c6)<| T_ed 5 [5,23] [(28,.bool false)]<| T_fz 28<| T_kt<| ar 4<| T_nr 2 [8] [vi a] hQ h
  rw[if_neg c6]at h
  refine N_bd 23 (bne_iff_ne.mpr c6)<| T_nd 2 [5] [(24,vi ra),(25,vp (pa b))] ?_
  obtain⟨k,q8,h⟩:=h
  refine T_l1 26 3 q8 [25]<| T_ed 2 [23,24,26] [(28,.bool (decide (ra<k)))] ?_
  by_cases c9:ra<k
  ·rw[if_pos c9]at h
   exact aH 28 (zX c9)<| ar 3<| T_nr 4 [8] [vi (if ra<a then ra else a)] hQ h
  rw[if_neg c9]at h
  exact aI 28 (zQ c9)<| T_kt<| ar 4<| T_nr 2 [8] [vi a] hQ h
 rw[if_neg c3]at h
 exact N_bd 18 (zZ c3)<| T_ed 10 [5,18] [(28,.bool false)]<| T_fz 28<| T_kt<| ar 4<| T_nr 2 [8] [vi a] hQ h
end cI

/-! (*moraine/card.Cards).Gen -/
namespace eu
def K0:=Func.code Tryz.f142
end eu
def eu.pt(c:zW)(wv:Int)(H:zV)(R:zk):Prop:=
 ff.C wv H (λv H1=> ∃(ra:Int) (rb:Bool),v=.tuple #[.int .i64 ra,.bool rb]/\
 cK.C c H1 (λt H2=> ∃x:Bool,t=.bool x/\
 if x=true then(
 R (.tuple #[.int .i64 0,.bool false]) H2)
 else
 if rb=true then(
 eI.C wv H2 (λr H3=> ∃m:Int,r=.int .i64 m/\
 if m=6 then(
 R (.tuple #[.int .i64 0,.bool false]) H3)
 else
 ∃cA:Addr,c=some cA/\
 ∃p:zW,hat H3 cA=some (.pointer p)/\
 ∃q:Addr,p=some q/\
 ∃n:zW,hat H3 q=some (.pointer n)/\
 bI.C n (zY (Int.tdiv ra 64)) H3 (λs H4=> ∃(k i l f g a d:Int) (j:Bool),s=.tuple #[.agg #[.int .i64 k,.int .i64 i,.int .i64 l,.int .i64 f,.int .i64 g,.int .i64 a,.int .i64 d],.bool j]/\
 ∀(b:Nat) (H5:zV),b=H4.size->H5=H4.push (.cells #[.int .i64 0,.int .i64 0,.int .i64 0,.int .i64 0,.int .i64 0,.int .i64 0,.int .i64 0] 158)->
 (aJ H5 (ad b) 0 7)/\ ∀H6,H6=aP H5 (ad b) [.int .i64 k,.int .i64 i,.int .i64 l,.int .i64 f,.int .i64 g,.int .i64 a,.int .i64 d] 0->
 ∃o:Int,hat H6 (ad b)=some (.int .i64 o)/\
 R (.tuple #[.int .i64 o,.bool j]) H6)))
 else
 R (.tuple #[.int .i64 0,.bool false]) H2))
namespace eu
theorem link{c:zW}{wv:Int}{H:zV}{R:zk}(h:pt c wv H R):C c wv H R:=by
 refine T_en K0 41 Tryz.func142 ?_
 intro w0 Q hQ
 unfold pt zY at h
 refine T_su [(0,vp c),(1,vu wv)]<| ar 0<| T_ed 2 [] []<| ar 1<| T_nd 1 [] [(10,vu wv)]<| T_c (some 11) h ?_;clear h
 rintro v H1 ⟨ra,rb,rfl,h⟩
 refine T_pd [10] [(11,.tuple #[vi ra,.bool rb])]<| T_ed 5 [11] [(6,vi ra),(7,.bool rb)]<| T_sz<| ar 2<| T_nd 1 [] [(14,vp c)]<| T_c (some 15) h ?_;clear h
 rintro t H2 ⟨x,rfl,h⟩
 refine T_pd [14] [(15,.bool x)]<| T_nd 1 [15] [(16,.bool x)] ?_
 by_cases c1:x=true
 ·rw[if_pos c1]at h
  exact N_bd 16 c1<| T_ed 8 [1,7,16] [(24,.bool true)]<| T_tz 24<| ar 3<| T_nr 2 [4,5] [vi 0,.bool false] hQ h
 rw[if_neg c1]at h
 refine N_bd 16 (zZ c1)<| T_nd 4 [7,16] [(20,.bool (!rb))] ?_
 by_cases c3:rb=true
 ·rw[if_pos c3]at h
  have b4:(!rb)=false:=congrArg Bool.not (c3)
  have b42:rb=true:=c3
  refine N_bd 20 (b:=(!rb)) (v:=false) (by simp only[b4,b42,Bool.not_true,Bool.not_false]) ?_
  clear b4 b42
  refine T_nd 1 [1] [(21,vu wv)]<| T_c (some 22) h ?_;clear h
  rintro r H3 ⟨m,rfl,h⟩
  refine T_pd [21] [(22,vi m)]<| T_ed 2 [20,22] [(24,.bool (m==6))] ?_
  by_cases c5:m=6
  ·rw[if_pos c5]at h
   exact aH 24 (zK c5)<| ar 3<| T_nr 2 [4,5] [vi 0,.bool false] hQ h
  rw[if_neg c5]at h
  refine aI 24 (zJ c5)<| T_kt<| ar 4<| T_nd 1 [0,24] [(26,vp c)] ?_
  obtain⟨cA,rfl,h⟩:=h
  refine T_nd 2 [26] [(28,vp (some cA))] ?_
  obtain⟨p,q7,h⟩:=h
  refine T_l1 29 99 q7 [28] ?_
  obtain⟨q,rfl,h⟩:=h
  refine T_nd 2 [29] [(31,vp (some q))] ?_
  obtain⟨n,q8,h⟩:=h
  refine T_l1 32 103 q8 [31]<| T_nd 2 [6] [(34,vi (zY (Int.tdiv ra 64)))]<| T_c (some 35) h ?_;clear h
  rintro s H4 ⟨k,i,l,f,g,a,d,j,rfl,h⟩
  refine⟨[(35,.tuple #[.agg #[vi k,vi i,vi l,vi f,vi g,vi a,vi d],.bool j])],pk,?_⟩
  refine T_n 3 [(36,.agg #[vi k,vi i,vi l,vi f,vi g,vi a,vi d]),(37,.bool j)]<| T_nw (some 8) (λb=>vp (pa b)) (.cells #[vi 0,vi 0,vi 0,vi 0,vi 0,vi 0,vi 0] 158) ?_
  intro b H5 e9 e10
  replace h:=h b H5 e9 e10
  refine T_pd [] [(8,vp (pa b))] ?_
  obtain⟨q12,h⟩:=h
  refine fm 158 [vi k,vi i,vi l,vi f,vi g,vi a,vi d] q12 ?_
  intro H6 e11
  replace h:=h H6 e11
  refine T_pd [36] []<| T_ed 1 [37] [(7,.bool j)]<| ar 5<| T_nd 1 [8] [(38,vp (pa b))] ?_
  obtain⟨o,q13,h⟩:=h
  exact T_l1 39 3 q13 [38]<| T_nr 3 [4,5] [vi o,.bool j] hQ h
 rw[if_neg c3]at h
 have b4:(!rb)=true:=congrArg Bool.not (zZ c3)
 have b42:rb=false:=zZ c3
 refine N_bd 20 (b:=(!rb)) (v:=true) (by simp only[b4,b42,Bool.not_true,Bool.not_false]) ?_
 clear b4 b42
 exact T_ed 4 [1,20] [(24,.bool true)]<| T_tz 24<| ar 3<| T_nr 2 [4,5] [vi 0,.bool false] hQ h
end eu

/-! (*moraine/obj.Heap).Cons -/
namespace cG
def K0:=Func.code Tryz.f12
end cG
def cG.pt(hv:zW)(d a:Int)(H:zV)(R:zk):Prop:=
 ∀(b:Nat) (H1:zV),b=H.size->H1=H.push (.cells #[.int .u64 d,.int .u64 a] 31)->
 eh.C hv 0 1 (some (ad b)) 2 2 H1 (λv H2=> ∃ra rb:Int,v=.tuple #[.int .u64 ra,.int .i64 rb]/\
 R (.tuple #[.int .u64 ra,.int .i64 rb]) H2)
namespace cG
theorem link{hv:zW}{d a:Int}{H:zV}{R:zk}(h:pt hv d a H R):C hv d a H R:=by
 refine T_en K0 15 Tryz.func12 ?_
 intro w0 Q hQ
 unfold pt at h
 refine T_su [(0,vp hv),(1,vu d),(2,vu a)]<| ar 0<| T_ed 2 [] []<| ar 1<| T_n 3 [(8,vp hv),(9,vu d),(10,vu a)]<| T_nw (some 11) (λb=>vs (pa b) 2 2) (.cells #[vu d,vu a] 31) ?_
 intro b H1 e1 e2
 replace h:=h b H1 e1 e2
 refine T_pd [9,10] [(11,vs (pa b) 2 2)]<| T_c (some 12) h ?_;clear h
 rintro v H2 ⟨ra,rb,rfl,h⟩
 refine⟨[(12,.tuple #[vu ra,vi rb])],pk,?_⟩
 exact T_nr 4 [6,7] [vu ra,vi rb] hQ h
end cG

/-! (*moraine/obj.Heap).Weak -/
namespace dY
def K0:=Func.code Tryz.f26
end dY
def dY.pt(hv:zW)(d a:Int)(H:zV)(R:zk):Prop:=
 ∀(b:Nat) (H1:zV),b=H.size->H1=H.push (.cells #[.int .u64 d,.int .u64 a] 31)->
 eh.C hv 1 2 (some (ad b)) 2 2 H1 (λv H2=> ∃ra rb:Int,v=.tuple #[.int .u64 ra,.int .i64 rb]/\
 R (.tuple #[.int .u64 ra,.int .i64 rb]) H2)
namespace dY
theorem link{hv:zW}{d a:Int}{H:zV}{R:zk}(h:pt hv d a H R):C hv d a H R:=by
 refine T_en K0 15 Tryz.func26 ?_
 intro w0 Q hQ
 unfold pt at h
 refine T_su [(0,vp hv),(1,vu d),(2,vu a)]<| ar 0<| T_ed 2 [] []<| ar 1<| T_n 3 [(8,vp hv),(9,vu d),(10,vu a)]<| T_nw (some 11) (λb=>vs (pa b) 2 2) (.cells #[vu d,vu a] 31) ?_
 intro b H1 e1 e2
 replace h:=h b H1 e1 e2
 refine T_pd [9,10] [(11,vs (pa b) 2 2)]<| T_c (some 12) h ?_;clear h
 rintro v H2 ⟨ra,rb,rfl,h⟩
 refine⟨[(12,.tuple #[vu ra,vi rb])],pk,?_⟩
 exact T_nr 4 [6,7] [vu ra,vi rb] hQ h
end dY

/-! (*moraine/obj.Heap).SetCdr -/
namespace cv
def K0:=Func.code Tryz.f32
end cv
def cv.pt(hv:zW)(wv v:Int)(H:zV)(R:zk):Prop:=
 eR.C hv wv 1 v H (λa H1=> ∃x:Int,a=.int .i64 x/\
 R (.int .i64 x) H1)
namespace cv
theorem link{hv:zW}{wv v:Int}{H:zV}{R:zk}(h:pt hv wv v H R):C hv wv v H R:=by
 refine T_en K0 11 Tryz.func32 ?_
 intro w0 Q hQ
 unfold pt at h
 refine T_su [(0,vp hv),(1,vu wv),(2,vu v)]<| ar 0<| T_ed 1 [] []<| ar 1<| T_n 3 [(7,vp hv),(8,vu wv),(9,vu v)]<| T_c (some 10) h ?_;clear h
 rintro a H1 ⟨x,rfl,h⟩
 refine⟨[(10,vi x)],pk,?_⟩
 exact T_nr 1 [6] [vi x] hQ h
end cv

/-! (*moraine/obj.Heap).Cdr -/
namespace dE
def K0:=Func.code Tryz.f41
end dE
def dE.pt(hv:zW)(wv:Int)(H:zV)(R:zk):Prop:=
 dZ.C hv wv 1 H (λv H1=> ∃ra rb:Int,v=.tuple #[.int .u64 ra,.int .i64 rb]/\
 R (.tuple #[.int .u64 ra,.int .i64 rb]) H1)
namespace dE
theorem link{hv:zW}{wv:Int}{H:zV}{R:zk}(h:pt hv wv H R):C hv wv H R:=by
 refine T_en K0 11 Tryz.func41 ?_
 intro w0 Q hQ
 unfold pt at h
 refine T_su [(0,vp hv),(1,vu wv)]<| ar 0<| T_ed 2 [] []<| ar 1<| T_n 2 [(6,vp hv),(7,vu wv)]<| T_c (some 8) h ?_;clear h
 rintro v H1 ⟨ra,rb,rfl,h⟩
 refine⟨[(8,.tuple #[vu ra,vi rb])],pk,?_⟩
 exact T_nr 4 [4,5] [vu ra,vi rb] hQ h
end dE

/-! (*moraine/obj.Heap).Car -/
namespace dd
def K0:=Func.code Tryz.f46
end dd
def dd.pt(hv:zW)(wv:Int)(H:zV)(R:zk):Prop:=
 dZ.C hv wv 0 H (λv H1=> ∃ra rb:Int,v=.tuple #[.int .u64 ra,.int .i64 rb]/\
 R (.tuple #[.int .u64 ra,.int .i64 rb]) H1)
namespace dd
theorem link{hv:zW}{wv:Int}{H:zV}{R:zk}(h:pt hv wv H R):C hv wv H R:=by
 refine T_en K0 11 Tryz.func46 ?_
 intro w0 Q hQ
 unfold pt at h
 refine T_su [(0,vp hv),(1,vu wv)]<| ar 0<| T_ed 2 [] []<| ar 1<| T_n 2 [(6,vp hv),(7,vu wv)]<| T_c (some 8) h ?_;clear h
 rintro v H1 ⟨ra,rb,rfl,h⟩
 refine⟨[(8,.tuple #[vu ra,vi rb])],pk,?_⟩
 exact T_nr 4 [4,5] [vu ra,vi rb] hQ h
end dd

/-! (*moraine/obj.Heap).set -/
namespace eR
def K0:=Func.code Tryz.f61
end eR
def eR.pt(hv:zW)(wv i v:Int)(H:zV)(R:zk):Prop:=
 dO.C hv wv H (λf H1=> ∃(ra:Int) (rb:Bool),f=.tuple #[.int .i64 ra,.bool rb]/\
 if rb=true then(
 ∃b:Addr,hv=some b/\
 ∃x:zW,hat H1 b=some (.pointer x)/\
 cZ.C x (zY (ra+i)) v H1 (λd H2=> ∃a:Int,d=.int .i64 a/\
 R (.int .i64 a) H2))
 else
 R (.int .i64 3) H1)
namespace eR
theorem link{hv:zW}{wv i v:Int}{H:zV}{R:zk}(h:pt hv wv i v H R):C hv wv i v H R:=by
 refine T_en K0 28 Tryz.func61 ?_
 intro w0 Q hQ
 unfold pt zY at h
 refine T_su [(0,vp hv),(1,vu wv),(2,vi i),(3,vu v)]<| ar 0<| T_ed 1 [] []<| ar 1<| T_nd 2 [1] [(12,vp hv),(13,vu wv)]<| T_c (some 14) h ?_;clear h
 rintro f H1 ⟨ra,rb,rfl,h⟩
 refine T_pd [12,13] [(14,.tuple #[vi ra,.bool rb])]<| T_ed 5 [14] [(9,vi ra),(10,.bool rb)]<| T_sz<| ar 2<| T_ed 2 [10] [(18,.bool (!rb))] ?_
 by_cases c1:rb=true
 ·rw[if_pos c1]at h
  refine aI 18 (congrArg Bool.not (c1))<| T_kt<| ar 4<| T_nd 1 [0,18] [(19,vp hv)] ?_
  obtain⟨b,rfl,h⟩:=h
  refine T_nd 2 [19] [(21,vp (some b))] ?_
  obtain⟨x,q3,h⟩:=h
  refine T_l1 22 82 q3 [21]<| T_n 4 [(22,vp x),(25,vi (zY (ra+i))),(26,vu v)]<| T_c (some 27) h ?_;clear h
  rintro d H2 ⟨a,rfl,h⟩
  refine⟨[(27,vi a)],pk,?_⟩
  exact T_nr 1 [8] [vi a] hQ h
 rw[if_neg c1]at h
 exact aH 18 (congrArg Bool.not (zZ c1))<| ar 3<| T_nr 1 [8] [vi 3] hQ h
end eR

/-! (*moraine/obj.Heap).half -/
namespace dZ
def K0:=Func.code Tryz.f67
end dZ
def dZ.pt(hv:zW)(wv i:Int)(H:zV)(R:zk):Prop:=
 dO.C hv wv H (λv H1=> ∃(ra:Int) (rb:Bool),v=.tuple #[.int .i64 ra,.bool rb]/\
 if rb=true then(
 ∃j:Addr,hv=some j/\
 ∃x:zW,hat H1 j=some (.pointer x)/\
 ∃xA:Addr,x=some xA/\
 ∃g:zW,hat H1 xA=some (.pointer g)/\
 ∃f:Addr,g=some f/\
 ∃d:zW,hat H1 f=some (.pointer d)/\
 cE.C d (zY (ra+i)) H1 (λk H2=> ∃b a:Int,k=.tuple #[.int .u64 b,.int .i64 a]/\
 R (.tuple #[.int .u64 b,.int .i64 a]) H2))
 else
 R (.tuple #[.int .u64 0,.int .i64 3]) H1)
namespace dZ
theorem link{hv:zW}{wv i:Int}{H:zV}{R:zk}(h:pt hv wv i H R):C hv wv i H R:=by
 refine T_en K0 34 Tryz.func67 ?_
 intro w0 Q hQ
 unfold pt zY at h
 refine T_su [(0,vp hv),(1,vu wv),(2,vi i)]<| ar 0<| T_ed 2 [] []<| ar 1<| T_nd 2 [1] [(11,vp hv),(12,vu wv)]<| T_c (some 13) h ?_;clear h
 rintro v H1 ⟨ra,rb,rfl,h⟩
 refine T_pd [11,12] [(13,.tuple #[vi ra,.bool rb])]<| T_ed 5 [13] [(8,vi ra),(9,.bool rb)]<| T_sz<| ar 2<| T_ed 2 [9] [(17,.bool (!rb))] ?_
 by_cases c1:rb=true
 ·rw[if_pos c1]at h
  refine aI 17 (congrArg Bool.not (c1))<| T_kt<| ar 4<| T_nd 1 [0,17] [(18,vp hv)] ?_
  obtain⟨j,rfl,h⟩:=h
  refine T_nd 2 [18] [(20,vp (some j))] ?_
  obtain⟨x,q3,h⟩:=h
  refine T_l1 21 82 q3 [20] ?_
  obtain⟨xA,rfl,h⟩:=h
  refine T_nd 2 [21] [(23,vp (some xA))] ?_
  obtain⟨g,q4,h⟩:=h
  refine T_l1 24 99 q4 [23] ?_
  obtain⟨f,rfl,h⟩:=h
  refine T_nd 2 [24] [(26,vp (some f))] ?_
  obtain⟨d,q5,h⟩:=h
  refine T_l1 27 103 q5 [26]<| T_nd 3 [2,8] [(30,vi (zY (ra+i)))]<| T_c (some 31) h ?_;clear h
  rintro k H2 ⟨b,a,rfl,h⟩
  refine⟨[(31,.tuple #[vu b,vi a])],pk,?_⟩
  exact T_nr 4 [6,7] [vu b,vi a] hQ h
 rw[if_neg c1]at h
 exact aH 17 (congrArg Bool.not (zZ c1))<| ar 3<| T_nr 2 [6,7] [vu 0,vi 3] hQ h
end dZ

/-! (*moraine/obj.Heap).SetCar -/
namespace dx
def K0:=Func.code Tryz.f68
end dx
def dx.pt(hv:zW)(wv v:Int)(H:zV)(R:zk):Prop:=
 eR.C hv wv 0 v H (λa H1=> ∃x:Int,a=.int .i64 x/\
 R (.int .i64 x) H1)
namespace dx
theorem link{hv:zW}{wv v:Int}{H:zV}{R:zk}(h:pt hv wv v H R):C hv wv v H R:=by
 refine T_en K0 11 Tryz.func68 ?_
 intro w0 Q hQ
 unfold pt at h
 refine T_su [(0,vp hv),(1,vu wv),(2,vu v)]<| ar 0<| T_ed 1 [] []<| ar 1<| T_n 3 [(7,vp hv),(8,vu wv),(9,vu v)]<| T_c (some 10) h ?_;clear h
 rintro a H1 ⟨x,rfl,h⟩
 refine⟨[(10,vi x)],pk,?_⟩
 exact T_nr 1 [6] [vi x] hQ h
end dx

/-! (*moraine/obj.Heap).Pair -/
namespace ec
def K0:=Func.code Tryz.f93
end ec
def ec.pt(hv:zW)(wv:Int)(H:zV)(R:zk):Prop:=
 dO.C hv wv H (λv H1=> ∃(ra:Int) (rb:Bool),v=.tuple #[.int .i64 ra,.bool rb]/\
 R (.bool rb) H1)
namespace ec
theorem link{hv:zW}{wv:Int}{H:zV}{R:zk}(h:pt hv wv H R):C hv wv H R:=by
 refine T_en K0 14 Tryz.func93 ?_
 intro w0 Q hQ
 unfold pt at h
 refine T_su [(0,vp hv),(1,vu wv)]<| ar 0<| T_ed 1 [] []<| ar 1<| T_n 2 [(8,vp hv),(9,vu wv)]<| T_c (some 10) h ?_;clear h
 rintro v H1 ⟨ra,rb,rfl,h⟩
 refine⟨[(10,.tuple #[vi ra,.bool rb])],pk,?_⟩
 exact T_ne 5 [(6,.bool rb)]<| ar 2<| T_nr 2 [4] [.bool rb] hQ h
end ec

/-! (*moraine/obj.Heap).pair -/
namespace dO
def K0:=Func.code Tryz.f94
end dO
def dO.pt(hv:zW)(wv:Int)(H:zV)(R:zk):Prop:=
 fc.C hv wv 1 0 H (λv H1=> ∃(ra:Int) (rb:Bool),v=.tuple #[.int .i64 ra,.bool rb]/\
 if rb=true then(
 R (.tuple #[.int .i64 ra,.bool ((Int.tmod ra 2)==0)]) H1)
 else
 fc.C hv wv 2 1 H1 (λd H2=> ∃(a:Int) (b:Bool),d=.tuple #[.int .i64 a,.bool b]/\
 R (.tuple #[.int .i64 a,.bool (b && ((Int.tmod a 2)==0))]) H2))
namespace dO
theorem link{hv:zW}{wv:Int}{H:zV}{R:zk}(h:pt hv wv H R):C hv wv H R:=by
 refine T_en K0 29 Tryz.func94 ?_
 intro w0 Q hQ
 unfold pt at h
 refine T_su [(0,vp hv),(1,vu wv)]<| ar 0<| T_ed 2 [] []<| ar 1<| T_nd 2 [] [(9,vp hv),(10,vu wv)]<| T_c (some 11) h ?_;clear h
 rintro v H1 ⟨ra,rb,rfl,h⟩
 refine T_pd [9,10] [(11,.tuple #[vi ra,.bool rb])]<| T_ed 5 [11] [(6,vi ra),(7,.bool rb)]<| T_sz<| ar 2<| T_ed 2 [] [(15,.bool (!rb))] ?_
 by_cases c1:rb=true
 ·rw[if_pos c1]at h
  have b2:(!rb)=false:=congrArg Bool.not (c1)
  have b22:rb=true:=c1
  refine S_bd 7 (b:=rb) (v:=true) (by simp only[b2,b22,Bool.not_true,Bool.not_false])<| S_bd 15 (b:=(!rb)) (v:=false) (by simp only[b2,b22,Bool.not_true,Bool.not_false]) ?_
  clear b2 b22
  exact T_fz 15<| T_kt<| ar 4<| T_nr 9 [4,5] [vi ra,.bool ((Int.tmod ra 2)==0)] hQ h
 rw[if_neg c1]at h
 have b2:(!rb)=true:=congrArg Bool.not (zZ c1)
 have b22:rb=false:=zZ c1
 refine S_bd 7 (b:=rb) (v:=false) (by simp only[b2,b22,Bool.not_true,Bool.not_false])<| S_bd 15 (b:=(!rb)) (v:=true) (by simp only[b2,b22,Bool.not_true,Bool.not_false]) ?_
 clear b2 b22
 refine T_tz 15<| T_rz 3<| T_n 2 [(17,vp hv),(18,vu wv)]<| T_c (some 19) h ?_;clear h
 rintro d H2 ⟨a,b,rfl,h⟩
 refine⟨[(19,.tuple #[vi a,.bool b])],pk,?_⟩
 refine T_ne 5 [(6,vi a),(7,.bool b)]<| ar 4 ?_
 refine gm [(4,vi a),(5,.bool (b && ((Int.tmod a 2)==0)))] ?_ ?_
 ·exact aB<| gi [4,5] [vi a,.bool (b && ((Int.tmod a 2)==0))] hQ h
 intro hk
 refine T_n 3 [(6,vi a),(22,vi a),(24,.bool b)] ?_
 by_cases c3:b=true
 ·have b4:b=true:=c3
  refine bV [(6,vi a),(22,vi a),(24,.bool true)] (by rw[b4]) ?_
  refine T_n 6 [(4,vi a),(5,.bool ((Int.tmod a 2)==0))]<| zq<| fl [(4,vi a),(5,.bool (b && ((Int.tmod a 2)==0)))] (by simp only[b4,BL]) ?_
  exact hk
 have b4:b=false:=zZ c3
 refine bV [(6,vi a),(22,vi a),(24,.bool false)] (by rw[b4]) ?_
 refine T_n 6 [(4,vi a),(5,.bool false)]<| zq<| fl [(4,vi a),(5,.bool (b && ((Int.tmod a 2)==0)))] (by simp only[b4,BL]) ?_
 exact hk
end dO

/-! (*moraine/obj.Heap).Size -/
namespace eX
def K0:=Func.code Tryz.f111
end eX
def eX.pt(hv:zW)(wv:Int)(H:zV)(R:zk):Prop:=
 ec.C hv wv H (λv H1=> ∃x:Bool,v=.bool x/\
 if x=true then(
 R (.int .i64 2) H1)
 else
 cy.C hv wv H1 (λa H2=> ∃(ra rb rc rd:Int) (re:Bool),a=.tuple #[.int .i64 ra,.int .i64 rb,.int .i64 rc,.int .u64 rd,.bool re]/\
 if re=true then(
 R (.int .i64 (zY (rc+1))) H2)
 else
 R (.int .i64 0) H2))
namespace eX
theorem link{hv:zW}{wv:Int}{H:zV}{R:zk}(h:pt hv wv H R):C hv wv H R:=by
 refine T_en K0 25 Tryz.func111 ?_
 intro w0 Q hQ
 unfold pt zY at h
 refine T_su [(0,vp hv),(1,vu wv)]<| ar 0<| T_ed 1 [] []<| T_sz<| ar 1<| T_nd 2 [] [(10,vp hv),(11,vu wv)]<| T_c (some 12) h ?_;clear h
 rintro v H1 ⟨x,rfl,h⟩
 refine T_pd [10,11] [(12,.bool x)]<| T_e ?_
 by_cases c1:x=true
 ·rw[if_pos c1]at h
  exact aH 12 c1<| ar 2<| T_nr 1 [4] [vi 2] hQ h
 rw[if_neg c1]at h
 refine aI 12 (zZ c1)<| T_kt<| T_sz<| ar 3<| T_n 2 [(14,vp hv),(15,vu wv)]<| T_c (some 16) h ?_;clear h
 rintro a H2 ⟨ra,rb,rc,rd,re,rfl,h⟩
 refine⟨[(16,.tuple #[vi ra,vi rb,vi rc,vu rd,.bool re])],pk,?_⟩
 refine T_ne 11 [(7,vi rc),(9,.bool re)]<| ar 4<| T_ed 1 [9] [(22,.bool re)] ?_
 by_cases c3:re=true
 ·rw[if_pos c3]at h
  exact aH 22 c3<| ar 5<| T_nr 3 [4] [vi (zY (rc+1))] hQ h
 rw[if_neg c3]at h
 exact aI 22 (zZ c3)<| T_kt<| ar 6<| T_nr 1 [4] [vi 0] hQ h
end eX

/-! (*moraine/obj.Heap).String -/
namespace dt
def K0:=Func.code Tryz.f25
def K2:=cb K0
def K4:=cb K2
def K5:=ca K4
def K8:=cb K5
def K9:=ca K8
def K10:=ca K9
end dt
def dt.pt(hv:zW)(s:ByteArray)(H:zV)(R:zk):Prop:=
 ∀(b:Nat) (H1:zV),b=H.size->H1=H.push (.stringIter s 0)->
 ∃(g:zW->Nat->Nat->zV->Prop) (m11:zW->Nat->Nat->zV->Nat),g none 0 0 H1/\ ∀(lB:zW) (lN:Nat) (lC:Nat) (H2:zV),g lB lN lC H2->
 ∃(a:ByteArray) (pos:Nat),H2[b]?=some (.stringIter a pos)/\
 if pos<a.size then(∀H3:zV,H3=aV H2 b (.stringIter a (pos+(Utf8.decode a pos).2))->
 ∀(f:Nat) (H4:zV),f=H3.size->H4=H3.push (.cells #[.int .u64 (IntKind.wrap .u64 ((Utf8.decode a pos).1:Int))] 31)->
 fN 1 31 8 [.int .u64 0] lB lN lC (some (ad f)) 1 H4 (λap d H5=>
 if((lN+1):Int)>62 then(
 R (.tuple #[.int .u64 0,.int .i64 6]) H5)
 else
 (g ap (lN+1) d H5/\m11 ap (lN+1) d H5<m11 lB lN lC H2)))
 else
 dL.C hv 2 0 lB lN lC H2 (λv H6=> ∃ra rb:Int,v=.tuple #[.int .u64 ra,.int .i64 rb]/\
 R (.tuple #[.int .u64 ra,.int .i64 rb]) H6)
namespace dt
theorem link{hv:zW}{s:ByteArray}{H:zV}{R:zk}(h:pt hv s H R):C hv s H R:=by
 refine T_en K0 27 Tryz.func25 ?_
 intro w0 Q hQ
 unfold pt at h
 refine T_su [(0,vp hv),(1,.string s)]<| ar 0<| T_ed 2 [] []<| ar 1<| T_ed 1 [] [(6,vs none 0 0)]<| T_sz<| ar 2<| T_nd 1 [1] [(9,.string s)]<| T_nw (some 10) (λb=>vp (pa b)) (.stringIter s 0) ?_
 intro b H1 e1 e2
 replace h:=h b H1 e1 e2
 refine T_pd [9] [(10,vp (pa b))]<| T_e<| T_bz 0 ?_
 obtain⟨g,m11,i3,i4⟩:=h
 refine cu (x:=K10) (σ:=zW×Nat×Nat) (λs_=> [(0,vp hv),(6,vs s_.1 s_.2.1 s_.2.2),(10,vp (pa b))]) (λs_ H=>g s_.1 s_.2.1 s_.2.2 H) (λs_ H=>m11 s_.1 s_.2.1 s_.2.2 H) ((none,0,0):zW×Nat×Nat) (by kernel_rfl) i3 sk ?_
 rintro⟨lB,lN,lC⟩ H2 i5
 have h:=i4 lB lN lC H2 i5
 refine T_su [(0,vp hv),(6,vs lB lN lC),(10,vp (pa b))]<| ar 3 ?_
 obtain⟨a,pos,q6,h⟩:=h
 by_cases c7:pos<a.size
 ·rw[if_pos c7]at h
  refine N_op (some 11) (nj (vp (pa b)) true 0) _ (λ_=>by kernel_rfl) (su q6 c7) ?_
  rintro _ H3 ⟨rfl,e12⟩
  replace h:=h H3 (by assumption)
  refine T_pd [] [(11,.tuple #[.bool true,vi pos,.int .i32 ((Utf8.decode a pos).1:Int)])]<| T_ed 1 [] [(12,.bool true)]<| T_sz<| T_tz 12<| T_kt<| T_bz 1<| ar 4<| T_ed 2 [11,12] [(8,.int .i32 ((Utf8.decode a pos).1:Int))]<| ar 5<| T_nd 3 [6,8] [(14,vs lB lN lC),(16,vu (IntKind.wrap .u64 ((Utf8.decode a pos).1:Int)))]<| T_nw (some 17) (λb=>vs (pa b) 1 1) (.cells #[vu (IntKind.wrap .u64 ((Utf8.decode a pos).1:Int))] 31) ?_
  intro f H4 e8 e9
  replace h:=h f H4 e8 e9
  refine T_pd [16] [(17,vs (pa f) 1 1)]<| N_op (some 18) (fq #[54,54] 54 #[vs lB lN lC,vs (pa f) 1 1]) _ (λ_=>by kernel_rfl) (eJ (T:=31) (sz:=1) (bytes:=8) (zero:=(vu 0:Value)) Tryz.underlying54 Tryz.underlying54 rfl (show Tryz.prog.info? 31=some Tryz.t31 from by kernel_rfl) (by kernel_rfl) (by kernel_rfl) (by decide) (by kernel_rfl) (by first | exact h | (simpa only[Value.cells,List.toList_toArray]using h))) ?_;clear h
  rintro _ H5 ⟨ap,d,rfl,h⟩
  refine T_pd [14,17] [(18,vs ap (lN+1) d)]<| T_ed 1 [18] [(6,vs ap (lN+1) d)]<| ar 6<| T_ed 3 [] [(21,.bool (decide (((lN+1):Int)>62)))] ?_
  by_cases c10:((lN+1):Int)>62
  ·rw[if_pos c10]at h
   exact aH 21 (zX c10)<| ar 7<| T_nr 2 [4,5] [vu 0,vi 6] hQ h
  rw[if_neg c10]at h
  exact aI 21 (zQ c10)<| T_k<| aC<| aB<| aQ ((ap,(lN+1),d):zW×Nat×Nat) sk h
 rw[if_neg c7]at h
 refine N_op (some 11) (nj (vp (pa b)) true 0) _ (λ_=>by kernel_rfl) (rm q6 c7) ?_
 rintro _ _ ⟨rfl,rfl⟩
 refine T_pd [] [(11,.tuple #[.bool false])]<| T_ed 1 [] [(12,.bool false)]<| T_sz<| T_fz 12<| zj 0<| aA<| aA<| aN<| aB<| ar 8<| T_n 2 [(22,vp hv),(23,vs lB lN lC)]<| T_c (some 24) h ?_;clear h
 rintro v H6 ⟨ra,rb,rfl,h⟩
 refine⟨[(24,.tuple #[vu ra,vi rb])],pk,?_⟩
 exact T_nr 4 [4,5] [vu ra,vi rb] hQ h
end dt

/-! (*moraine/obj.Heap).Vector -/
namespace du
def K0:=Func.code Tryz.f47
end du
def du.pt(hv:zW)(nv a:Int)(H:zV)(R:zk):Prop:=
 if nv<0 then(
 R (.tuple #[.int .u64 0,.int .i64 4]) H)
 else
 if nv>62 then(
 R (.tuple #[.int .u64 0,.int .i64 6]) H)
 else
 ∀(b:Nat) (H1:zV),b=H.size->H1=H.push (.cells #[.int .u64 a] 31)->
 aZ.C (some (ad b)) 1 1 nv H1 (λv H2=> ∃(xB:zW) (xN xC:Nat),v=.slice xB xN xC/\
 dL.C hv 1 0 xB xN xC H2 (λd H3=> ∃ra rb:Int,d=.tuple #[.int .u64 ra,.int .i64 rb]/\
 R (.tuple #[.int .u64 ra,.int .i64 rb]) H3))
namespace du
theorem link{hv:zW}{nv a:Int}{H:zV}{R:zk}(h:pt hv nv a H R):C hv nv a H R:=by
 refine T_en K0 22 Tryz.func47 ?_
 intro w0 Q hQ
 unfold pt at h
 refine T_su [(0,vp hv),(1,vi nv),(2,vu a)]<| ar 0<| T_ed 2 [] []<| T_sz<| T_bz 0<| ar 1<| T_ed 3 [] [(8,.bool (decide (nv<0)))] ?_
 by_cases c1:nv<0
 ·rw[if_pos c1]at h
  exact aH 8 (zX c1)<| ar 2<| T_nr 2 [6,7] [vu 0,vi 4] hQ h
 rw[if_neg c1]at h
 refine aI 8 (zQ c1)<| ar 3<| T_ed 3 [8] [(11,.bool (decide (nv>62)))] ?_
 by_cases c3:nv>62
 ·rw[if_pos c3]at h
  exact aH 11 (zX c3)<| ar 4<| T_nr 2 [6,7] [vu 0,vi 6] hQ h
 rw[if_neg c3]at h
 refine aI 11 (zQ c3)<| T_k<| aC<| aB<| ar 5<| T_n 2 [(1,vi nv),(14,vp hv),(15,vu a)]<| T_nw (some 16) (λb=>vs (pa b) 1 1) (.cells #[vu a] 31) ?_
 intro b H1 e5 e6
 replace h:=h b H1 e5 e6
 refine T_pd [15] [(16,vs (pa b) 1 1)]<| T_nd 1 [1] [(17,vi nv)]<| T_c (some 18) h ?_;clear h
 rintro v H2 ⟨xB,xN,xC,rfl,h⟩
 refine T_pd [16,17] [(18,vs xB xN xC)]<| T_c (some 19) h ?_;clear h
 rintro d H3 ⟨ra,rb,rfl,h⟩
 refine⟨[(19,.tuple #[vu ra,vi rb])],pk,?_⟩
 exact T_nr 4 [6,7] [vu ra,vi rb] hQ h
end du

/-! (*moraine/obj.Heap).Epoch -/
namespace dM
def K0:=Func.code Tryz.f49
end dM
def dM.pt(hv:zW)(H:zV)(R:zk):Prop:=
 dv.C hv H (λv H1=> ∃x:Bool,v=.bool x/\
 if x=true then(
 R (.int .u64 0) H1)
 else
 ∃b:Addr,hv=some b/\
 ∃a:Int,hat H1 (b.add 3)=some (.int .u64 a)/\
 R (.int .u64 a) H1)
namespace dM
theorem link{hv:zW}{H:zV}{R:zk}(h:pt hv H R):C hv H R:=by
 refine T_en K0 9 Tryz.func49 ?_
 intro w0 Q hQ
 unfold pt at h
 refine T_su [(0,vp hv)]<| ar 0<| T_ed 1 [] []<| T_sz<| ar 1<| T_nd 1 [] [(3,vp hv)]<| T_c (some 4) h ?_;clear h
 rintro v H1 ⟨x,rfl,h⟩
 refine T_pd [3] [(4,.bool x)]<| T_e ?_
 by_cases c1:x=true
 ·rw[if_pos c1]at h
  exact aH 4 c1<| ar 2<| T_nr 1 [2] [vu 0] hQ h
 rw[if_neg c1]at h
 refine aI 4 (zZ c1)<| T_kt<| ar 3<| T_n 1 [(5,vp hv)] ?_
 obtain⟨b,rfl,h⟩:=h
 refine T_n 2 [(7,vp (some (b.add 3)))] ?_
 obtain⟨a,q3,h⟩:=h
 exact T_l1 8 30 q3 [7]<| T_nr 1 [2] [vu a] hQ h
end dM

/-! (*moraine/obj.Heap).Next -/
namespace eW
def K0:=Func.code Tryz.f108
end eW
def eW.pt(hv:zW)(H:zV)(R:zk):Prop:=
 dv.C hv H (λv H1=> ∃x:Bool,v=.bool x/\
 if x=true then(
 R (.tuple #[]) H1)
 else
 ∃a:Addr,hv=some a/\
 ∃b:Int,hat H1 (a.add 3)=some (.int .u64 b)/\
 (aJ H1 (a.add 3) 0 1)/\ ∀H2,H2=aP H1 (a.add 3) [.int .u64 (IntKind.wrap .u64 (b+1))] 0->
 R (.tuple #[]) H2)
namespace eW
theorem link{hv:zW}{H:zV}{R:zk}(h:pt hv H R):C hv H R:=by
 refine T_en K0 12 Tryz.func108 ?_
 intro w0 Q hQ
 unfold pt at h
 refine T_su [(0,vp hv)]<| ar 0<| T_nd 1 [] [(2,vp hv)]<| T_c (some 3) h ?_;clear h
 rintro v H1 ⟨x,rfl,h⟩
 refine T_pd [2] [(3,.bool x)]<| T_ed 1 [3] [(4,.bool (!x))] ?_
 by_cases c1:x=true
 ·rw[if_pos c1]at h
  exact aI 4 (congrArg Bool.not (c1))<| T_k<| fp (fn:=Tryz.f108) [] hQ (show cF _ _ _ [] _ from .nil) h
 rw[if_neg c1]at h
 refine aH 4 (congrArg Bool.not (zZ c1))<| T_rz 1<| T_n 1 [(5,vp hv)] ?_
 obtain⟨a,rfl,h⟩:=h
 refine T_n 2 [(5,vp (some a)),(7,vp (some (a.add 3)))] ?_
 obtain⟨b,q3,h⟩:=h
 refine T_l1 8 30 q3 [7]<| T_n 3 [(9,vu (IntKind.wrap .u64 (b+1))),(11,vp (some (a.add 3)))] ?_
 obtain⟨q5,h⟩:=h
 refine dV 30 (vu (IntKind.wrap .u64 (b+1))) q5 ?_
 intro H2 e4
 replace h:=h H2 e4
 refine⟨[],pk,?_⟩
 exact zq<| fp (fn:=Tryz.f108) [] hQ (show cF _ _ _ [] _ from .nil) h
end eW

/-! math/bits.Mul -/
namespace eV
def K0:=Func.code Tryz.f99
def K2:=cb K0
def K3:=ca K2
def K5:=ca K3
def K6:=cb K3
end eV
def eV.pt(x y:Int)(H:zV)(R:zk):Prop:=
 eE.C x y H (λv H1=> ∃ra rb:Int,v=.tuple #[.int .u64 ra,.int .u64 rb]/\
 R (.tuple #[.int .u64 ra,.int .u64 rb]) H1)
namespace eV
theorem link{x y:Int}{H:zV}{R:zk}(h:pt x y H R):C x y H R:=by
 refine T_en K0 30 Tryz.func99 ?_
 intro w0 Q hQ
 unfold pt at h
 refine T_su [(0,vu x),(1,vu y)]<| ar 0<| T_ed 2 [] []<| T_sz<| jC (.const (.bool false)) K5 K6 (by kernel_rfl) (by kernel_rfl)<| T_kt<| ar 3<| T_n 2 [(23,vu x),(24,vu y)]<| T_c (some 25) h ?_;clear h
 rintro v H1 ⟨ra,rb,rfl,h⟩
 refine⟨[(25,.tuple #[vu ra,vu rb])],pk,?_⟩
 exact T_ne 5 [(8,vu ra),(9,vu rb)]<| ar 4<| T_nr 4 [4,5] [vu ra,vu rb] hQ h
end eV

/-! math/bits.Mul32 -/
namespace eE
def K0:=Func.code Tryz.f129
end eE
def eE.pt(x y:Int)(H:zV)(R:zk):Prop:=
 R (.tuple #[.int .u64 (IntKind.wrap .u64 ((IntKind.wrap .u64 ((IntKind.wrap .u64 ((ishr .u64 x 32)*(ishr .u64 y 32)))+(ishr .u64 (IntKind.wrap .u64 ((IntKind.wrap .u64 ((ishr .u64 x 32)*(iand .u64 y 4294967295)))+(ishr .u64 (IntKind.wrap .u64 ((iand .u64 x 4294967295)*(iand .u64 y 4294967295))) 32))) 32)))+(ishr .u64 (IntKind.wrap .u64 ((iand .u64 (IntKind.wrap .u64 ((IntKind.wrap .u64 ((ishr .u64 x 32)*(iand .u64 y 4294967295)))+(ishr .u64 (IntKind.wrap .u64 ((iand .u64 x 4294967295)*(iand .u64 y 4294967295))) 32))) 4294967295)+(IntKind.wrap .u64 ((iand .u64 x 4294967295)*(ishr .u64 y 32))))) 32))),.int .u64 (IntKind.wrap .u64 (x*y))]) H
namespace eE
theorem link{x y:Int}{H:zV}{R:zk}(h:pt x y H R):C x y H R:=by
 refine T_en K0 51 Tryz.func129 ?_
 intro w0 Q hQ
 unfold pt at h
 exact T_su [(0,vu x),(1,vu y)]<| ar 0<| T_ed 2 [] []<| ar 1<| T_ed 3 [] [(6,vu (iand .u64 x 4294967295))]<| ar 2<| T_ed 3 [] [(7,vu (ishr .u64 x 32))]<| ar 3<| T_ed 3 [] [(8,vu (iand .u64 y 4294967295))]<| ar 4<| T_ed 3 [] [(9,vu (ishr .u64 y 32))]<| ar 5<| T_ed 4 [] [(10,vu (IntKind.wrap .u64 ((iand .u64 x 4294967295)*(iand .u64 y 4294967295))))]<| ar 6<| T_ed 7 [8,10] [(11,vu (IntKind.wrap .u64 ((IntKind.wrap .u64 ((ishr .u64 x 32)*(iand .u64 y 4294967295)))+(ishr .u64 (IntKind.wrap .u64 ((iand .u64 x 4294967295)*(iand .u64 y 4294967295))) 32))))]<| ar 7<| T_ed 3 [] [(12,vu (iand .u64 (IntKind.wrap .u64 ((IntKind.wrap .u64 ((ishr .u64 x 32)*(iand .u64 y 4294967295)))+(ishr .u64 (IntKind.wrap .u64 ((iand .u64 x 4294967295)*(iand .u64 y 4294967295))) 32))) 4294967295))]<| ar 8<| T_ed 3 [11] [(13,vu (ishr .u64 (IntKind.wrap .u64 ((IntKind.wrap .u64 ((ishr .u64 x 32)*(iand .u64 y 4294967295)))+(ishr .u64 (IntKind.wrap .u64 ((iand .u64 x 4294967295)*(iand .u64 y 4294967295))) 32))) 32))]<| ar 9<| T_ed 6 [6,12] [(12,vu (IntKind.wrap .u64 ((iand .u64 (IntKind.wrap .u64 ((IntKind.wrap .u64 ((ishr .u64 x 32)*(iand .u64 y 4294967295)))+(ishr .u64 (IntKind.wrap .u64 ((iand .u64 x 4294967295)*(iand .u64 y 4294967295))) 32))) 4294967295)+(IntKind.wrap .u64 ((iand .u64 x 4294967295)*(ishr .u64 y 32))))))]<| ar 10<| T_ed 9 [7,9,12,13] [(4,vu (IntKind.wrap .u64 ((IntKind.wrap .u64 ((IntKind.wrap .u64 ((ishr .u64 x 32)*(ishr .u64 y 32)))+(ishr .u64 (IntKind.wrap .u64 ((IntKind.wrap .u64 ((ishr .u64 x 32)*(iand .u64 y 4294967295)))+(ishr .u64 (IntKind.wrap .u64 ((iand .u64 x 4294967295)*(iand .u64 y 4294967295))) 32))) 32)))+(ishr .u64 (IntKind.wrap .u64 ((iand .u64 (IntKind.wrap .u64 ((IntKind.wrap .u64 ((ishr .u64 x 32)*(iand .u64 y 4294967295)))+(ishr .u64 (IntKind.wrap .u64 ((iand .u64 x 4294967295)*(iand .u64 y 4294967295))) 32))) 4294967295)+(IntKind.wrap .u64 ((iand .u64 x 4294967295)*(ishr .u64 y 32))))) 32))))]<| ar 11<| T_nr 4 [4,5] [vu (IntKind.wrap .u64 ((IntKind.wrap .u64 ((IntKind.wrap .u64 ((ishr .u64 x 32)*(ishr .u64 y 32)))+(ishr .u64 (IntKind.wrap .u64 ((IntKind.wrap .u64 ((ishr .u64 x 32)*(iand .u64 y 4294967295)))+(ishr .u64 (IntKind.wrap .u64 ((iand .u64 x 4294967295)*(iand .u64 y 4294967295))) 32))) 32)))+(ishr .u64 (IntKind.wrap .u64 ((iand .u64 (IntKind.wrap .u64 ((IntKind.wrap .u64 ((ishr .u64 x 32)*(iand .u64 y 4294967295)))+(ishr .u64 (IntKind.wrap .u64 ((iand .u64 x 4294967295)*(iand .u64 y 4294967295))) 32))) 4294967295)+(IntKind.wrap .u64 ((iand .u64 x 4294967295)*(ishr .u64 y 32))))) 32))),vu (IntKind.wrap .u64 (x*y))] hQ h
end eE

/-! (moraine/eqtab.table).fresh -/
namespace bW
def K0:=Func.code Tryz.f58
def K2:=cb K0
def K3:=ca K2
def K4:=cb K2
def K5:=ca K3
def K10:=cb K4
def K11:=ca K10
def K12:=cb K10
def K14:=cb K11
def K15:=ca K14
def K16:=ca K15
def K18:=cb K16
def K20:=cb K18
def K23:=ca K20
def K25:=ca K23
def K27:=cb K25
def K28:=ca K27
def K30:=ca K12
def K31:=cb K12
def K33:=cb K30
def K34:=ca K33
def K35:=ca K34
def K37:=cb K35
def K39:=cb K37
def K42:=ca K39
def K44:=ca K42
def K46:=cb K44
def K48:=cb K46
def K50:=cb K48
def K51:=ca K50
end bW
def bW.pt(aj:zW)(tw:Int)(H:zV)(R:zk):Prop:=
 ∀(b:Nat) (H1:zV),b=H.size->H1=H.push (.cells #[.pointer aj,.int .u64 tw] 72)->
 ∃(aa:zW) (xw:Int),aL H1 (ad b) 0 [.pointer aa,.int .u64 xw]/\
 ∃(n:zW) (ae:Int),aL H1 (ad b) 0 [.pointer n,.int .u64 ae]/\
 bH.C aa xw 3 H1 (λv H2=> ∃x:Int,v=.int .u64 x/\aL H2 (ad b) 0 [.pointer n,.int .u64 ae]/\
 dy.C n ae H2 (λbb H3=> ∃ag:Int,bb=.int .u64 ag/\
 if x=ag then(
 R (.tuple #[]) H3)
 else
 ∃(av:zW->Nat->Nat->zv) (m17:zW->Nat->Nat->Int->zV->Nat),av none 0 0 0 H3/\ ∀(g:zW) (allN:Nat) (allC:Nat) (s14:Int) (H4:zV),av g allN allC s14 H4->
 if s14<31 then(
 ∃(l:zW) (z:Int),aL H4 (ad b) 0 [.pointer l,.int .u64 z]/\
 ∃(r:zW) (ah:Int),aL H4 (ad b) 0 [.pointer r,.int .u64 ah]/\
 bO.C r ah s14 H4 (λa3 H5=> ∃au:Int,a3=.int .u64 au/\aL H5 (ad b) 0 [.pointer l,.int .u64 z]/\
 bX.C l z au H5 (λao H6=>ao=ao/\
 aS.C g allN allC ao H6 (λa5 H7=> ∃(xB:zW) (xN xC:Nat),a5=.slice xB xN xC/\
 ∃(s:zW) (ak:Int),aL H7 (ad b) 0 [.pointer s,.int .u64 ak]/\
 bE.C s ak s14 20 H7 (λ_ H8=>
 (av xB xN xC (zY (s14+1)) H8/\m17 xB xN xC (zY (s14+1)) H8<m17 g allN allC s14 H4))))))
 else
 ∃(ap:zv) (m36:Int->zV->Nat),ap 0 H4/\ ∀(f:Int) (H9:zV),ap f H9->
 if f< (allN:Int)then(
 ∃d:Addr,g=some d/\
 zw f allN/\
 ∃j:Int,hat H9 (d.add (Int.toNat f*1))=some (.int .u64 j)/\
 ∃(u:zW) (al:Int),aL H9 (ad b) 0 [.pointer u,.int .u64 al]/\
 dw.C u al j H9 (λa6 a4=> ∃ra rb:Int,a6=.tuple #[.int .u64 ra,.int .u64 rb]/\
 eD.C rb a4 (λa7 aw=> ∃o:Int,a7=.int .i64 o/\
 ∃af:zW,hat aw (ad b)=some (.pointer af)/\
 ∃(q:zW) (ai:Int),aL aw (ad b) 0 [.pointer q,.int .u64 ai]/\
 bO.C q ai o aw (λa9 a0=> ∃aq:Int,a9=.int .u64 aq/\aL a0 (ad b) 0 [.pointer af]/\
 cv.C af j aq a0 (λaz a2=> ∃a8:Int,az=.int .i64 a8/\
 ∃(y:zW) (am:Int),aL a2 (ad b) 0 [.pointer y,.int .u64 am]/\
 bE.C y am o j a2 (λ_ ay=>
 (ap (zY (f+1)) ay/\m36 (zY (f+1)) ay<m36 f H9)))))))
 else
 ∃(m:zW) (ab:Int),aL H9 (ad b) 0 [.pointer m,.int .u64 ab]/\
 ∃(p:zW) (ac:Int),aL H9 (ad b) 0 [.pointer p,.int .u64 ac]/\
 dy.C p ac H9 (λa1 ax=> ∃an:Int,a1=.int .u64 an/\aL ax (ad b) 0 [.pointer m,.int .u64 ab]/\
 cx.C m ab 3 an ax (λ_ ba=>
 R (.tuple #[]) ba))))
namespace bW
theorem link{aj:zW}{tw:Int}{H:zV}{R:zk}(h:pt aj tw H R):C aj tw H R:=by
 refine T_en K0 58 Tryz.func58 ?_
 intro w0 Q hQ
 unfold pt zY at h
 refine T_su [(0,.agg #[vp aj,vu tw])]<| ar 0<| T_nw (some 1) (λb=>vp (pa b)) (.cells #[vp aj,vu tw] 72) ?_
 intro b H1 e1 e2
 replace h:=h b H1 e1 e2
 refine⟨[(1,vp (pa b))],pk,?_⟩
 refine T_e<| T_sz<| T_sz ?_
 obtain⟨aa,xw,q3,n,ae,q4,h⟩:=h
 refine yz 1 (Code.ops K5) [(1,(ad b),[vp aa,vu xw]),(3,(ad b),[vp n,vu ae])] 5 (bv 5 0) (show aE _ _ _ from⟨q3,q4,trivial⟩)<| T_g 0 (some 9) (.agg #[vp aa,vu xw]) (bv 5 1) [(1,vp (pa b)),(9,.agg #[vp aa,vu xw])] (aM 72 (vp (pa b))) (dU 1 (λ_=>by kernel_rfl) (λ_=>by kernel_rfl) yZ (.inl (by kernel_rfl)))<| T_g1 2 11 (.agg #[vp n,vu ae]) (bv 5 5) [] (aM 72 (vp (pa b))) (dU 3 (λ_=>by kernel_rfl) (λ_=>by kernel_rfl) yX (.inl (by kernel_rfl)))<| yj 1 (some 10) (bv 5 7) 34 #[.agg #[vp aa,vu xw],vi 3] h ?_;clear h
 rintro v H2 ⟨x,rfl,f5,h⟩
 refine⟨[(1,vp (pa b)),(10,vu x),(11,.agg #[vp n,vu ae])],pk,(show aE _ _ _ from⟨trivial,f5,trivial⟩),?_⟩
 refine yj 3 (some 12) (bv 5 15) 90 #[.agg #[vp n,vu ae]] h ?_;clear h
 rintro bb H3 ⟨ag,rfl,h⟩
 refine⟨[(1,vp (pa b)),(10,vu x),(12,vu ag)],pk,(show aE _ _ _ from⟨trivial,trivial,trivial⟩),?_⟩
 refine T_g 4 (some 13) (.bool (x==ag)) (bv 5 31) [(1,vp (pa b)),(13,.bool (x==ag))] (pure (.value (.bool (x==ag))):Sem Next) (λ_ _ _ _ _=>rfl)<| dp [(1,vp (pa b)),(13,.bool (x==ag))] sk<| yv<| aB ?_
 by_cases c6:x=ag
 ·rw[if_pos c6]at h
  exact aH 13 (zK c6)<| gi [] [] hQ h
 rw[if_neg c6]at h
 refine aI 13 (zJ c6)<| T_kt<| ar 2<| T_ne 1 [(1,vp (pa b)),(2,vs none 0 0)]<| T_sz<| ar 3<| T_ed 1 [] [(14,vi 0)]<| T_bz 0 ?_
 obtain⟨av,m17,i8,i9⟩:=h
 refine cu (x:=K16) (σ:=zW×Nat×Nat×Int) (λs_=> [(1,vp (pa b)),(2,vs s_.1 s_.2.1 s_.2.2.1),(14,vi s_.2.2.2)]) (λs_ H=>av s_.1 s_.2.1 s_.2.2.1 s_.2.2.2 H) (λs_ H=>m17 s_.1 s_.2.1 s_.2.2.1 s_.2.2.2 H) ((none,0,0,0):zW×Nat×Nat×Int) (by kernel_rfl) i8 sk ?_
 rintro⟨g,allN,allC,s14⟩ H4 i10
 have h:=i9 g allN allC s14 H4 i10
 refine T_su [(1,vp (pa b)),(2,vs g allN allC),(14,vi s14)]<| ar 4<| T_ed 1 [] [(15,.bool (decide (s14<31)))]<| T_sz ?_
 by_cases c11:s14<31
 ·rw[if_pos c11]at h
  refine aH 15 (zX c11)<| T_kt<| T_sz<| T_bz 1<| ar 5<| T_ed 2 [15] [(3,vi s14)]<| T_sz ?_
  obtain⟨l,z,q13,r,ah,q14,h⟩:=h
  refine yz 6 (Code.ops K28) [(5,(ad b),[vp l,vu z]),(4,(ad b),[vp r,vu ah])] 8 (bv 8 0) (show aE _ _ _ from⟨q13,q14,trivial⟩)<| T_gp 0 (some 17) (vs g allN allC) (bv 8 1) [(1,vp (pa b)),(2,vs g allN allC),(3,vi s14),(14,vi s14),(17,vs g allN allC)]<| T_g1 1 18 (.agg #[vp l,vu z]) (bv 8 3) [] (aM 72 (vp (pa b))) (dU 5 (λ_=>by kernel_rfl) (λ_=>by kernel_rfl) yZ (.inl (by kernel_rfl)))<| T_g1 2 19 (.agg #[vp r,vu ah]) (bv 8 7) [] (aM 72 (vp (pa b))) (dU 4 (λ_=>by kernel_rfl) (λ_=>by kernel_rfl) yX (.inl (by kernel_rfl)))<| aD 3 20 (vi s14) (bv 8 15) []<| yj 4 (some 21) (bv 8 31) 35 #[.agg #[vp r,vu ah],vi s14] h ?_;clear h
  rintro a3 H5 ⟨au,rfl,f15,h⟩
  refine⟨[(1,vp (pa b)),(2,vs g allN allC),(3,vi s14),(14,vi s14),(17,vs g allN allC),(18,.agg #[vp l,vu z]),(21,vu au)],pk,(show aE _ _ _ from⟨f15,trivial,trivial⟩),?_⟩
  refine yj 5 (some 22) (bv 8 63) 59 #[.agg #[vp l,vu z],vu au] h ?_;clear h
  rintro ao H6 ⟨-,h⟩
  refine⟨[(1,vp (pa b)),(2,vs g allN allC),(3,vi s14),(14,vi s14),(17,vs g allN allC),(22,ao)],pk,(show aE _ _ _ from⟨trivial,trivial,trivial⟩),?_⟩
  refine yj 6 (some 23) (bv 8 127) 91 #[vs g allN allC,ao] h ?_;clear h
  rintro a5 H7 ⟨xB,xN,xC,rfl,h⟩
  refine⟨[(1,vp (pa b)),(2,vs g allN allC),(3,vi s14),(14,vi s14),(23,vs xB xN xC)],pk,(show aE _ _ _ from⟨trivial,trivial,trivial⟩),?_⟩
  refine T_g 7 (some 2) (vs xB xN xC) (bv 8 255) [(1,vp (pa b)),(2,vs xB xN xC),(3,vi s14),(14,vi s14)] (pure (.value (vs xB xN xC)):Sem Next) (λ_ _ _ _ _=>rfl)<| dp [(1,vp (pa b)),(2,vs xB xN xC),(3,vi s14),(14,vi s14)] sk<| yv<| aB<| T_rz 7 ?_
  obtain⟨s,ak,q16,h⟩:=h
  refine T_v (some 24) (aM 72 (vp (pa b))) (.agg #[vp s,vu ak]) (fd (dS (λ_=>by kernel_rfl) (λ_=>by kernel_rfl) q16)) [(1,vp (pa b)),(2,vs xB xN xC),(3,vi s14),(14,vi s14),(24,.agg #[vp s,vu ak])]<| T_nd 1 [3] [(25,vi s14)]<| T_c (some 26) h ?_;clear h
  intro v_6 H8 h
  exact T_pd [24,25] []<| zq<| aC<| aB<| T_rz 8<| T_ed 2 [14] [(14,vi (zY (s14+1)))]<| aQ ((xB,xN,xC,(zY (s14+1))):zW×Nat×Nat×Int) sk h
 rw[if_neg c11]at h
 refine aI 15 (zQ c11)<| zj 0<| aA<| aA<| aN<| aB<| T_sz<| ar 9<| T_ed 3 [2,14,15] [(28,vs g allN allC),(29,vi allN),(30,vi 0)]<| T_bz 2 ?_
 obtain⟨ap,m36,i17,i18⟩:=h
 refine cu (x:=K35) (σ:=Int) (λs_=> [(1,vp (pa b)),(28,vs g allN allC),(29,vi allN),(30,vi s_)]) (λs_ H=>ap s_ H) (λs_ H=>m36 s_ H) (0:Int) (by kernel_rfl) i17 sk ?_
 rintro f H9 i19
 have h:=i18 f H9 i19
 refine T_su [(1,vp (pa b)),(28,vs g allN allC),(29,vi allN),(30,vi f)]<| ar 10<| T_ed 1 [] [(31,.bool (decide (f< (allN:Int))))]<| T_sz ?_
 by_cases c20:f< (allN:Int)
 ·rw[if_pos c20]at h
  refine aH 31 (zX c20)<| T_kt<| T_sz<| T_bz 3<| ar 11<| T_ud [31] [] ?_
  obtain⟨d,rfl,q22,h⟩:=h
  refine T_xd (some 32) 54 31 1 d allN allC .i64 f Tryz.underlying54 q22.1 q22.2 [28] [(28,vs (some d) allN allC),(32,vp (some (d.add (Int.toNat f*1))))] ?_
  obtain⟨j,q23,h⟩:=h
  refine T_l1 33 31 q23 [32]<| T_ed 1 [33] [(5,vu j)]<| ar 12 ?_
  obtain⟨u,al,q24,h⟩:=h
  refine T_lr 35 72 q24 []<| T_nd 1 [] [(36,vu j)]<| T_c (some 37) h ?_;clear h
  rintro a6 a4 ⟨ra,rb,rfl,h⟩
  refine T_pd [35,36] [(37,.tuple #[vu ra,vu rb])]<| T_ed 5 [37] [(7,vu rb)]<| ar 13<| T_nd 1 [7] [(40,vu rb)]<| T_c (some 41) h ?_;clear h
  rintro a7 aw ⟨o,rfl,h⟩
  refine T_pd [40] [(41,vi o)]<| T_ed 1 [41] [(8,vi o)]<| T_sz ?_
  obtain⟨af,q25,q,ai,q26,h⟩:=h
  refine yz 14 (Code.ops K51) [(6,(ad b),[vp af]),(5,(ad b),[vp q,vu ai])] 7 (bv 7 0) (show aE _ _ _ from⟨⟨q25,trivial⟩,q26,trivial⟩)<| T_gp 0 (some 42) (vp (pa b)) (bv 7 1) [(1,vp (pa b)),(5,vu j),(8,vi o),(28,vs (some d) allN allC),(29,vi allN),(30,vi f),(42,vp (pa b))]<| T_g1 1 43 (vp af) (bv 7 3) [42] (aM 34 (vp (pa b))) (yx 6 yZ)<| aD 2 44 (vu j) (bv 7 7) []<| T_g1 3 45 (.agg #[vp q,vu ai]) (bv 7 15) [] (aM 72 (vp (pa b))) (dU 5 (λ_=>by kernel_rfl) (λ_=>by kernel_rfl) yX (.inl (by kernel_rfl)))<| aD 4 46 (vi o) (bv 7 31) []<| yj 5 (some 47) (bv 7 63) 35 #[.agg #[vp q,vu ai],vi o] h ?_;clear h
  rintro a9 a0 ⟨aq,rfl,f27,h⟩
  refine⟨[(1,vp (pa b)),(5,vu j),(8,vi o),(28,vs (some d) allN allC),(29,vi allN),(30,vi f),(43,vp af),(44,vu j),(47,vu aq)],pk,(show aE _ _ _ from⟨f27,trivial,trivial⟩),?_⟩
  refine yj 6 (some 48) (bv 7 127) 32 #[vp af,vu j,vu aq] h ?_;clear h
  rintro az a2 ⟨a8,rfl,h⟩
  refine⟨[(1,vp (pa b)),(5,vu j),(8,vi o),(28,vs (some d) allN allC),(29,vi allN),(30,vi f)],pk,(show aE _ _ _ from⟨trivial,trivial,trivial⟩),?_⟩
  refine dp [(1,vp (pa b)),(5,vu j),(8,vi o),(28,vs (some d) allN allC),(29,vi allN),(30,vi f)] sk ?_
  refine yv<| aB<| T_rz 15 ?_
  obtain⟨y,am,q28,h⟩:=h
  refine T_v (some 49) (aM 72 (vp (pa b))) (.agg #[vp y,vu am]) (fd (dS (λ_=>by kernel_rfl) (λ_=>by kernel_rfl) q28)) [(1,vp (pa b)),(5,vu j),(8,vi o),(28,vs (some d) allN allC),(29,vi allN),(30,vi f),(49,.agg #[vp y,vu am])]<| T_nd 2 [5,8] [(50,vi o),(51,vu j)]<| T_c (some 52) h ?_;clear h
  intro v_11 ay h
  exact T_pd [49,50,51] []<| zq<| aC<| aB<| T_rz 16<| T_ed 2 [30] [(30,vi (zY (f+1)))]<| aQ ((zY (f+1)):Int) sk h
 rw[if_neg c20]at h
 refine aI 31 (zQ c20)<| zj 2<| aA<| aA<| aN<| aB ?_
 obtain⟨m,ab,q29,p,ac,q30,h⟩:=h
 refine yz 17 (Code.ops K31) [(3,(ad b),[vp m,vu ab]),(2,(ad b),[vp p,vu ac])] 4 (bv 4 0) (show aE _ _ _ from⟨q29,q30,trivial⟩)<| T_g 0 (some 54) (.agg #[vp m,vu ab]) (bv 4 1) [(1,vp (pa b)),(54,.agg #[vp m,vu ab])] (aM 72 (vp (pa b))) (dU 3 (λ_=>by kernel_rfl) (λ_=>by kernel_rfl) yZ (.inl (by kernel_rfl)))<| T_g1 1 55 (.agg #[vp p,vu ac]) (bv 4 3) [1] (aM 72 (vp (pa b))) (dU 2 (λ_=>by kernel_rfl) (λ_=>by kernel_rfl) yX (.inl (by kernel_rfl)))<| yj 2 (some 56) (bv 4 7) 90 #[.agg #[vp p,vu ac]] h ?_;clear h
 rintro a1 ax ⟨an,rfl,f31,h⟩
 refine⟨[(54,.agg #[vp m,vu ab]),(56,vu an)],pk,(show aE _ _ _ from⟨f31,trivial,trivial⟩),?_⟩
 refine yj 3 (some 57) (bv 4 15) 37 #[.agg #[vp m,vu ab],vi 3,vu an] h ?_;clear h
 intro v_13 ba h
 refine⟨[],pk,(show aE _ _ _ from⟨trivial,trivial,trivial⟩),?_⟩
 refine dp [] sk ?_
 exact yv<| fp (fn:=Tryz.f58) [] hQ (show cF _ _ _ [] _ from .nil) h
end bW

/-! (moraine/eqtab.table).pairs -/
namespace bX
def K0:=Func.code Tryz.f59
end bX
def bX.pt(a:zW)(tw l:Int)(H:zV)(R:zk):Prop:=
 ∀(b:Nat) (H1:zV),b=H.size->H1=H.push (.cells #[.pointer a,.int .u64 tw] 72)->
 ∀(d:Nat) (H2:zV),d=H1.size->H2=H1.push (.cells #[.int .u64 l] 31)->
 R (.func (.func 92) #[] #[.pointer (some (ad b)),.pointer (some (ad d))]) H2
namespace bX
theorem link{a:zW}{tw l:Int}{H:zV}{R:zk}(h:pt a tw l H R):C a tw l H R:=by
 refine T_en K0 6 Tryz.func59 ?_
 intro w0 Q hQ
 unfold pt at h
 refine T_su [(0,.agg #[vp a,vu tw]),(1,vu l)]<| ar 0<| T_nw (some 2) (λb=>vp (pa b)) (.cells #[vp a,vu tw] 72) ?_
 intro b H1 e1 e2
 replace h:=h b H1 e1 e2
 refine T_pd [0] [(2,vp (pa b))]<| T_nw (some 3) (λb=>vp (pa b)) (.cells #[vu l] 31) ?_
 intro d H2 e3 e4
 replace h:=h d H2 e3 e4
 exact T_pd [1] [(3,vp (pa d))]<| T_ed 1 [] []<| ar 1<| T_nr 2 [4] [.func (.func 92) #[] #[vp (pa b),vp (pa d)]] hQ h
end bX

/-! (moraine/eqtab.table).key -/
namespace dw
def K0:=Func.code Tryz.f60
end dw
def dw.pt(a:zW)(tw p:Int)(H:zV)(R:zk):Prop:=
 ∀(b:Nat) (H1:zV),b=H.size->H1=H.push (.cells #[.pointer a,.int .u64 tw] 72)->
 ∃x:zW,hat H1 (ad b)=some (.pointer x)/\
 dd.C x p H1 (λv H2=> ∃ra rb:Int,v=.tuple #[.int .u64 ra,.int .i64 rb]/\
 ∃f:zW,hat H2 (ad b)=some (.pointer f)/\
 dd.C f ra H2 (λi H3=> ∃d g:Int,i=.tuple #[.int .u64 d,.int .i64 g]/\
 R (.tuple #[.int .u64 ra,.int .u64 d]) H3))
namespace dw
theorem link{a:zW}{tw p:Int}{H:zV}{R:zk}(h:pt a tw p H R):C a tw p H R:=by
 refine T_en K0 22 Tryz.func60 ?_
 intro w0 Q hQ
 unfold pt at h
 refine T_su [(0,.agg #[vp a,vu tw]),(1,vu p)]<| ar 0<| T_nw (some 2) (λb=>vp (pa b)) (.cells #[vp a,vu tw] 72) ?_
 intro b H1 e1 e2
 replace h:=h b H1 e1 e2
 refine T_pd [0] [(2,vp (pa b))]<| T_ed 2 [] []<| ar 1<| T_nd 1 [] [(7,vp (pa b))] ?_
 obtain⟨x,q3,h⟩:=h
 refine T_l1 8 34 q3 [7]<| T_nd 1 [1] [(9,vu p)]<| T_c (some 10) h ?_;clear h
 rintro v H2 ⟨ra,rb,rfl,h⟩
 refine T_pd [8,9] [(10,.tuple #[vu ra,vi rb])]<| T_ed 4 [10] [(4,vu ra)]<| ar 2<| T_nd 1 [2] [(14,vp (pa b))] ?_
 obtain⟨f,q4,h⟩:=h
 refine T_l1 15 34 q4 [14]<| T_nd 1 [] [(16,vu ra)]<| T_c (some 17) h ?_;clear h
 rintro i H3 ⟨d,g,rfl,h⟩
 exact T_pd [15,16] [(17,.tuple #[vu d,vi g])]<| T_ed 4 [17] [(5,vu d)]<| ar 3<| T_nr 4 [4,5] [vu ra,vu d] hQ h
end dw

/-! (moraine/eqtab.table).now -/
namespace dy
def K0:=Func.code Tryz.f90
end dy
def dy.pt(a:zW)(tw:Int)(H:zV)(R:zk):Prop:=
 ∀(b:Nat) (H1:zV),b=H.size->H1=H.push (.cells #[.pointer a,.int .u64 tw] 72)->
 ∃x:zW,hat H1 (ad b)=some (.pointer x)/\
 dM.C x H1 (λv H2=> ∃f:Int,v=.int .u64 f/\
 fH.C (zY f) H2 (λg H3=> ∃d:Int,g=.int .u64 d/\
 R (.int .u64 d) H3))
namespace dy
theorem link{a:zW}{tw:Int}{H:zV}{R:zk}(h:pt a tw H R):C a tw H R:=by
 refine T_en K0 8 Tryz.func90 ?_
 intro w0 Q hQ
 unfold pt zY at h
 refine T_su [(0,.agg #[vp a,vu tw])]<| ar 0<| T_nw (some 1) (λb=>vp (pa b)) (.cells #[vp a,vu tw] 72) ?_
 intro b H1 e1 e2
 replace h:=h b H1 e1 e2
 refine⟨[(1,vp (pa b))],pk,?_⟩
 refine T_ed 1 [] []<| ar 1<| T_n 1 [(3,vp (pa b))] ?_
 obtain⟨x,q3,h⟩:=h
 refine T_l1 4 34 q3 [3]<| T_c (some 5) h ?_;clear h
 rintro v H2 ⟨f,rfl,h⟩
 refine⟨[(5,vu f)],pk,?_⟩
 refine T_n 1 [(6,vi (zY f))]<| T_c (some 7) h ?_;clear h
 rintro g H3 ⟨d,rfl,h⟩
 refine⟨[(7,vu d)],pk,?_⟩
 exact T_nr 1 [2] [vu d] hQ h
end dy

/-! (moraine/eqtab.table).pairs.1 -/
namespace dc
def K0:=Func.code Tryz.f92
def K1:=ca K0
def K2:=ca K1
end dc
def dc.pt(b:Value)(i f:zW)(H:zV)(R:zk):Prop:=
 ∃(I3:zV->Prop) (m3:zV->Nat),I3 H/\ ∀(H1:zV),I3 H1->
 ∃d:Addr,i=some d/\
 ∃x:zW,hat H1 d=some (.pointer x)/\
 ∃a:Addr,f=some a/\
 ∃n:Int,hat H1 a=some (.int .u64 n)/\
 ec.C x n H1 (λv H2=> ∃k:Bool,v=.bool k/\
 if k=true then(
 ∃j:zW,hat H2 d=some (.pointer j)/\
 ∃m:Int,hat H2 a=some (.int .u64 m)/\
 dE.C j m H2 (λp H3=> ∃ra rb:Int,p=.tuple #[.int .u64 ra,.int .i64 rb]/\
 ∃l:Int,hat H3 a=some (.int .u64 l)/\
 FC Tryz.prog b #[.int .u64 l] H3 (λo H4=> ∃g:Bool,o=.bool g/\
 if g=true then(
 (aJ H4 a 0 1)/\ ∀H5,H5=aP H4 a [.int .u64 ra] 0->
 (I3 H5/\m3 H5<m3 H1))
 else
 R (.tuple #[]) H4)))
 else
 R (.tuple #[]) H2)
namespace dc
theorem link{b:Value}{i f:zW}{H:zV}{R:zk}(h:pt b i f H R):C b i f H R:=by
 refine T_en K0 22 Tryz.func92 ?_
 intro w0 Q hQ
 unfold pt at h
 refine T_su [(0,b),(1,vp i),(2,vp f)]<| T_bz 0 ?_
 obtain⟨I3,m3,i1,i2⟩:=h
 refine cu (x:=K2) (σ:=Unit) (λs_=> [(0,b),(1,vp i),(2,vp f)]) (λs_ H=>I3 H) (λs_ H=>m3 H) (():Unit) (by kernel_rfl) i1 sk ?_
 rintro _ H1 i3
 have h:=i2 H1 i3
 refine T_su [(0,b),(1,vp i),(2,vp f)]<| T_sz<| ar 0 ?_
 obtain⟨d,rfl,h⟩:=h
 refine T_nd 1 [1] [(1,vp (some d)),(6,vp (some d))] ?_
 obtain⟨x,q4,h⟩:=h
 refine T_l1 7 34 q4 [6] ?_
 obtain⟨a,rfl,n,q5,h⟩:=h
 refine T_ld (some 8) 31 q5 [2] [(2,vp (some a)),(8,vu n)]<| T_c (some 9) h ?_;clear h
 rintro v H2 ⟨k,rfl,h⟩
 refine T_pd [7,8] [(9,.bool k)]<| T_e ?_
 by_cases c6:k=true
 ·rw[if_pos c6]at h
  refine aH 9 c6<| T_kt<| T_bz 1<| ar 1<| T_nd 1 [9] [(11,vp (some d))] ?_
  obtain⟨j,q8,h⟩:=h
  refine T_l1 12 34 q8 [11] ?_
  obtain⟨m,q9,h⟩:=h
  refine T_l1 13 31 q9 []<| T_c (some 14) h ?_;clear h
  rintro p H3 ⟨ra,rb,rfl,h⟩
  refine T_pd [12,13] [(14,.tuple #[vu ra,vi rb])]<| T_ed 5 [14] [(4,vu ra)]<| T_sz<| ar 2<| T_nd 1 [] [(17,b)] ?_
  obtain⟨l,q10,h⟩:=h
  refine T_l1 18 31 q10 []<| nQ (some 19) b #[vu l] (λ_=>by kernel_rfl) h ?_;clear h
  rintro o H4 ⟨g,rfl,h⟩
  refine T_pd [17,18] [(19,.bool g)]<| T_ed 1 [19] [(20,.bool (!g))] ?_
  by_cases c11:g=true
  ·rw[if_pos c11]at h
   refine aI 20 (congrArg Bool.not (c11))<| T_kt<| T_rz 3<| T_nd 1 [4,20] [(21,vu ra)] ?_
   obtain⟨q14,h⟩:=h
   refine dV 31 (vu ra) q14 ?_
   intro H5 e13
   replace h:=h H5 e13
   exact T_pd [21] []<| zq<| aC<| aB<| aQ (s:=()) (():Unit) sk h
  rw[if_neg c11]at h
  exact aH 20 (congrArg Bool.not (zZ c11))<| gi [] [] hQ h
 rw[if_neg c6]at h
 exact aI 9 (zZ c6)<| zj 0<| aA<| aA<| aN<| fp (fn:=Tryz.f92) [] hQ (show cF _ _ _ [] _ from .nil) h
end dc

/-! (*moraine/moraineref15.Table).Find -/
namespace aU
def K0:=Func.code Tryz.f14
def K2:=cb K0
def K3:=ca K2
def K6:=cb K3
def K7:=ca K6
def K8:=ca K7
end aU
def aU.pt(tv:zW)(b:Int)(H:zV)(R:zk):Prop:=
 ∃(I9:zv) (m9:Int->zV->Nat),I9 0 H/\ ∀(i:Int) (H1:zV),I9 i H1->
 ∃d:Addr,tv=some d/\
 ∃(xB:zW) (xN xC:Nat),hat H1 d=some (.slice xB xN xC)/\
 if i< (xN:Int)then(
 ∃(l:zW) (g j:Nat),hat H1 d=some (.slice l g j)/\
 ∃f:Addr,l=some f/\
 zw i g/\
 ∃x:Int,hat H1 (f.add (Int.toNat i*2))=some (.int .i64 x)/\
 if x=b then(
 R (.int .i64 i) H1)
 else
 (I9 (zY (i+1)) H1/\m9 (zY (i+1)) H1<m9 i H1))
 else
 R (.int .i64 (-1)) H1
namespace aU
theorem link{tv:zW}{b:Int}{H:zV}{R:zk}(h:pt tv b H R):C tv b H R:=by
 refine T_en K0 26 Tryz.func14 ?_
 intro w0 Q hQ
 unfold pt zY at h
 refine T_su [(0,vp tv),(1,vi b)]<| ar 0<| T_ed 1 [] []<| T_sz<| ar 1<| T_ed 1 [] [(5,vi 0)]<| T_bz 0 ?_
 obtain⟨I9,m9,i1,i2⟩:=h
 refine cu (x:=K8) (σ:=Int) (λs_=> [(0,vp tv),(1,vi b),(5,vi s_)]) (λs_ H=>I9 s_ H) (λs_ H=>m9 s_ H) (0:Int) (by kernel_rfl) i1 sk ?_
 rintro i H1 i3
 have h:=i2 i H1 i3
 refine T_su [(0,vp tv),(1,vi b),(5,vi i)]<| T_sz<| ar 2<| T_nd 2 [] [(6,vi i),(7,vp tv)] ?_
 obtain⟨d,rfl,h⟩:=h
 refine T_nd 2 [0,7] [(0,vp (some d)),(9,vp (some d))] ?_
 obtain⟨xB,xN,xC,q4,h⟩:=h
 refine T_l1 10 62 q4 [9]<| T_ed 2 [6,10] [(12,.bool (decide (i< (xN:Int))))] ?_
 by_cases c5:i< (xN:Int)
 ·rw[if_pos c5]at h
  refine aH 12 (zX c5)<| T_kt<| T_sz<| T_bz 1<| ar 4<| T_nd 3 [12] [(17,vp (some d))] ?_
  obtain⟨l,g,j,q7,h⟩:=h
  refine T_l1 18 62 q7 [17]<| T_nd 1 [] [(19,vi i)] ?_
  obtain⟨f,rfl,q8,h⟩:=h
  refine T_xd (some 20) 62 67 2 f g j .i64 i Tryz.underlying62 q8.1 q8.2 [18,19] [(20,vp (some (f.add (Int.toNat i*2))))]<| T_nd 1 [20] [(21,vp (some (f.add (Int.toNat i*2))))] ?_
  obtain⟨x,q9,h⟩:=h
  refine T_l1 22 3 q9 [21]<| T_ed 2 [22] [(24,.bool (x==b))] ?_
  by_cases c10:x=b
  ·rw[if_pos c10]at h
   exact aH 24 (zK c10)<| ar 5<| T_nr 2 [4] [vi i] hQ h
  rw[if_neg c10]at h
  exact aI 24 (zJ c10)<| T_k<| aC<| aB<| T_rz 3<| T_ed 3 [5,24] [(5,vi (zY (i+1)))]<| aQ ((zY (i+1)):Int) sk h
 rw[if_neg c5]at h
 exact aI 12 (zQ c5)<| zj 0<| aA<| aA<| aN<| aB<| ar 6<| T_nr 1 [4] [vi (-1)] hQ h
end aU

/-! (*moraine/moraineref15.Table).Put -/
namespace bF
def K0:=Func.code Tryz.f17
end bF
def bF.pt(tv:zW)(f d:Int)(H:zV)(R:zk):Prop:=
 aU.C tv f H (λv H1=> ∃x:Int,v=.int .i64 x/\
 if x<0 then(
 ∃j:Addr,tv=some j/\
 ∃(xB:zW) (xN xC:Nat),hat H1 j=some (.slice xB xN xC)/\
 ∀(b:Nat) (H2:zV),b=H1.size->H2=H1.push (.cells #[.int .i64 f,.int .i64 d] 67)->
 fN 2 67 16 [.int .i64 0,.int .i64 0] xB xN xC (some (ad b)) 1 H2 (λap p H3=>
 (aJ H3 j 0 1)/\ ∀H4,H4=aP H3 j [.slice ap (xN+1) p] 0->
 R (.tuple #[]) H4))
 else
 ∃n:Addr,tv=some n/\
 ∃(o:zW) (l m:Nat),hat H1 n=some (.slice o l m)/\
 ∃g:Addr,o=some g/\
 zw x l/\
 (aJ H1 ((g.add (Int.toNat x*2)).add 1) 0 1)/\ ∀H5,H5=aP H1 ((g.add (Int.toNat x*2)).add 1) [.int .i64 d] 0->
 R (.tuple #[]) H5)
namespace bF
theorem link{tv:zW}{f d:Int}{H:zV}{R:zk}(h:pt tv f d H R):C tv f d H R:=by
 refine T_en K0 32 Tryz.func17 ?_
 intro w0 Q hQ
 unfold pt at h
 refine T_su [(0,vp tv),(1,vi f),(2,vi d)]<| ar 0<| T_nd 2 [] [(7,vp tv),(8,vi f)]<| T_c (some 9) h ?_;clear h
 rintro v H1 ⟨x,rfl,h⟩
 refine T_pd [7,8] [(9,vi x)]<| T_ed 1 [9] [(6,vi x)]<| T_sz<| ar 1<| T_ed 2 [] [(11,.bool (decide (x<0)))] ?_
 by_cases c1:x<0
 ·rw[if_pos c1]at h
  refine aH 11 (zX c1)<| ar 2<| T_nd 2 [0,6,11] [(12,vp tv),(13,vp tv)] ?_
  obtain⟨j,rfl,h⟩:=h
  refine T_nd 2 [12,13] [(12,vp (some j)),(15,vp (some j))] ?_
  obtain⟨xB,xN,xC,q3,h⟩:=h
  refine T_l1 16 62 q3 [15]<| T_nd 3 [1,2] [(19,.agg #[vi f,vi d])]<| T_nw (some 20) (λb=>vs (pa b) 1 1) (.cells #[vi f,vi d] 67) ?_
  intro b H2 e4 e5
  replace h:=h b H2 e4 e5
  refine T_pd [19] [(20,vs (pa b) 1 1)]<| N_op (some 21) (fq #[62,62] 62 #[vs xB xN xC,vs (pa b) 1 1]) _ (λ_=>by kernel_rfl) (eJ (T:=67) (sz:=2) (bytes:=16) (zero:=(.agg #[vi 0,vi 0]:Value)) Tryz.underlying62 Tryz.underlying62 rfl (show Tryz.prog.info? 67=some Tryz.t67 from by kernel_rfl) (by kernel_rfl) (by kernel_rfl) (by decide) (by kernel_rfl) (by first | exact h | (simpa only[Value.cells,List.toList_toArray]using h))) ?_;clear h
  rintro _ H3 ⟨ap,p,rfl,h⟩
  refine T_pd [16,20] [(21,vs ap (xN+1) p)]<| T_nd 2 [12] [(23,vp (some j))] ?_
  obtain⟨q7,h⟩:=h
  refine dV 62 (vs ap (xN+1) p) q7 ?_
  intro H4 e6
  replace h:=h H4 e6
  refine⟨[],pk,?_⟩
  exact T_e<| gi [] [] hQ h
 rw[if_neg c1]at h
 refine aI 11 (zQ c1)<| T_kt<| T_rz 3<| T_nd 1 [0,1,11] [(24,vp tv)] ?_
 obtain⟨n,rfl,h⟩:=h
 refine T_nd 2 [24] [(26,vp (some n))] ?_
 obtain⟨o,l,m,q8,h⟩:=h
 refine T_l1 27 62 q8 [26]<| T_nd 2 [2,6] [(28,vi x),(29,vi d)] ?_
 obtain⟨g,rfl,q9,h⟩:=h
 refine T_xd (some 30) 62 67 2 g l m .i64 x Tryz.underlying62 q9.1 q9.2 [27,28] [(30,vp (some (g.add (Int.toNat x*2))))]<| T_nd 1 [30] [(31,vp (some ((g.add (Int.toNat x*2)).add 1)))] ?_
 obtain⟨q11,h⟩:=h
 refine dV 3 (vi d) q11 ?_
 intro H5 e10
 replace h:=h H5 e10
 refine⟨[],pk,?_⟩
 exact zq<| fp (fn:=Tryz.f17) [] hQ (show cF _ _ _ [] _ from .nil) h
end bF

/-! (*moraine/moraineref15.Table).Delete -/
namespace bK
def K0:=Func.code Tryz.f27
end bK
def bK.pt(tv:zW)(p:Int)(H:zV)(R:zk):Prop:=
 aU.C tv p H (λv H1=> ∃x:Int,v=.int .i64 x/\
 if x<0 then(
 R (.bool false) H1)
 else
 ∀(b:Nat) (H2:zV),b=H1.size->H2=H1.push (.cells #[] 67)->
 ∃f:Addr,tv=some f/\
 ∃(xB:zW) (xN xC:Nat),hat H2 f=some (.slice xB xN xC)/\
 ∃(lo hi:Nat),lo=0/\x=(hi:Int)/\lo<=hi/\hi<=xC/\
 ∀sl:zW,sl=(if xC=lo then xB else Option.map (λa:Addr=>a.add (lo*2)) xB)->
 fN 2 67 16 [.int .i64 0,.int .i64 0] (some (ad b)) 0 0 sl (hi-lo) H2 (λap o H3=>
 ∃(j:zW) (l i:Nat),hat H3 f=some (.slice j l i)/\
 ∃(d g:Nat),(zY (x+1))=(d:Int)/\g=l/\d<=g/\g<=i/\
 ∀n:zW,n=(if i=d then j else Option.map (λa:Addr=>a.add (d*2)) j)->
 fN 2 67 16 [.int .i64 0,.int .i64 0] ap (0+(hi-lo)) o n (g-d) H3 (λm k H4=>
 (aJ H4 f 0 1)/\ ∀H5,H5=aP H4 f [.slice m ((0+(hi-lo))+(g-d)) k] 0->
 R (.bool true) H5)))
namespace bK
theorem link{tv:zW}{p:Int}{H:zV}{R:zk}(h:pt tv p H R):C tv p H R:=by
 refine T_en K0 32 Tryz.func27 ?_
 intro w0 Q hQ
 unfold pt zY at h
 refine T_su [(0,vp tv),(1,vi p)]<| ar 0<| T_ed 1 [] []<| ar 1<| T_nd 2 [1] [(7,vp tv),(8,vi p)]<| T_c (some 9) h ?_;clear h
 rintro v H1 ⟨x,rfl,h⟩
 refine T_pd [7,8] [(9,vi x)]<| T_ed 1 [9] [(5,vi x)]<| T_sz<| ar 2<| T_ed 2 [] [(11,.bool (decide (x<0)))] ?_
 by_cases c1:x<0
 ·rw[if_pos c1]at h
  exact aH 11 (zX c1)<| ar 3<| T_nr 1 [4] [.bool false] hQ h
 rw[if_neg c1]at h
 refine aI 11 (zQ c1)<| T_kt<| ar 4<| T_ud [11] []<| T_nw (some 12) (λb=>vs (pa b) 0 0) (.cells #[] 67) ?_
 intro b H2 e3 e4
 replace h:=h b H2 e3 e4
 refine T_pd [] [(12,vs (pa b) 0 0)]<| T_nd 1 [] [(13,vp tv)] ?_
 obtain⟨f,rfl,h⟩:=h
 refine T_nd 2 [0,13] [(0,vp (some f)),(15,vp (some f))] ?_
 obtain⟨xB,xN,xC,q5,h⟩:=h
 refine T_l1 16 62 q5 [15]<| T_nd 1 [] [(17,vi x)] ?_
 obtain⟨lo,hi,q6,q7,q8,q9,h⟩:=h
 obtain⟨sl,e10⟩: ∃B,B=(if xC=lo then xB else Option.map (λa:Addr=>a.add (lo*2)) xB):=⟨_,rfl⟩
 replace h:=h sl e10
 refine T_v1 18 (lj 62 (vs xB xN xC) none (some (vi x)) none) (vs sl (hi-lo) (xC-lo)) (λw _=>(j9 (P:=Tryz.prog) (t:=62) (elem:=67) (sz:=2) (a:=xB) (len:=xN) (cap:=xC) none (some (vi x)) lo hi Tryz.underlying62 (λ_=>by kernel_rfl) (.inl ⟨rfl,q6⟩) (.inr ⟨.i64,congrArg (λq=>some (Value.int .i64 q)) q7⟩) q8 q9 w).trans (by rw[e10];try rfl)) [16,17]<| N_op (some 19) (fq #[62,62] 62 #[vs (pa b) 0 0,vs sl (hi-lo) (xC-lo)]) _ (λ_=>by kernel_rfl) (eJ (T:=67) (sz:=2) (bytes:=16) (zero:=(.agg #[vi 0,vi 0]:Value)) Tryz.underlying62 Tryz.underlying62 rfl (show Tryz.prog.info? 67=some Tryz.t67 from by kernel_rfl) (by kernel_rfl) (by kernel_rfl) (by decide) (by kernel_rfl) (by first | exact h | (simpa only[Value.cells,List.toList_toArray]using h))) ?_;clear h
 rintro _ H3 ⟨ap,o,rfl,h⟩
 refine T_pd [12,18] [(19,vs ap (0+(hi-lo)) o)]<| T_ed 1 [19] [(6,vs ap (0+(hi-lo)) o)]<| ar 5<| T_nd 5 [0,6] [(20,vp (some f)),(21,vs ap (0+(hi-lo)) o),(24,vp (some f))] ?_
 obtain⟨j,l,i,q11,h⟩:=h
 refine T_l1 25 62 q11 [24]<| T_nd 2 [5] [(27,vi (zY (x+1)))] ?_
 obtain⟨d,g,q12,q13,q14,q15,h⟩:=h
 obtain⟨n,e16⟩: ∃B,B=(if i=d then j else Option.map (λa:Addr=>a.add (d*2)) j):=⟨_,rfl⟩
 replace h:=h n e16
 refine T_v1 28 (lj 62 (vs j l i) (some (vi (zY (x+1)))) none none) (vs n (g-d) (i-d)) (λw _=>(j9 (P:=Tryz.prog) (t:=62) (elem:=67) (sz:=2) (a:=j) (len:=l) (cap:=i) (some (vi (zY (x+1)))) none d g Tryz.underlying62 (λ_=>by kernel_rfl) (.inr ⟨.i64,congrArg (λq=>some (Value.int .i64 q)) q12⟩) (.inl ⟨rfl,q13⟩) q14 q15 w).trans (by rw[e16];try rfl)) [25,27]<| N_op (some 29) (fq #[62,62] 62 #[vs ap (0+(hi-lo)) o,vs n (g-d) (i-d)]) _ (λ_=>by kernel_rfl) (eJ (T:=67) (sz:=2) (bytes:=16) (zero:=(.agg #[vi 0,vi 0]:Value)) Tryz.underlying62 Tryz.underlying62 rfl (show Tryz.prog.info? 67=some Tryz.t67 from by kernel_rfl) (by kernel_rfl) (by kernel_rfl) (by decide) (by kernel_rfl) (by first | exact h | (simpa only[Value.cells,List.toList_toArray]using h))) ?_;clear h
 rintro _ H4 ⟨m,k,rfl,h⟩
 refine T_pd [21,28] [(29,vs m ((0+(hi-lo))+(g-d)) k)]<| T_nd 2 [20] [(31,vp (some f))] ?_
 obtain⟨q18,h⟩:=h
 refine dV 62 (vs m ((0+(hi-lo))+(g-d)) k) q18 ?_
 intro H5 e17
 replace h:=h H5 e17
 refine⟨[],pk,?_⟩
 exact T_e<| ar 6<| T_nr 1 [4] [.bool true] hQ h
end bK

/-! moraine/morainelaw15.at -/
namespace bT
def K0:=Func.code Tryz.f13
end bT
def bT.pt(x nv:Int)(H:zV)(R:zk):Prop:=
 (nv≠0)/\
 (nv≠0)/\
 R (.int .i64 (Int.tmod (zY ((Int.tmod x nv)+nv)) nv)) H
namespace bT
set_option maxRecDepth 100000 in
theorem link{x nv:Int}{H:zV}{R:zk}(h:pt x nv H R):C x nv H R:=by
 refine T_en K0 12 Tryz.func13 ?_
 intro w0 Q hQ
 unfold pt zY at h
 refine T_su [(0,vi x),(1,vi nv)]<| ar 0<| T_ed 1 [] []<| ar 1<| T_nd 2 [0] [(5,vi x),(6,vi nv)] ?_
 obtain⟨q1,h⟩:=h
 refine T_v1 7 (binN .rem 3 (vi x) (vi nv)) (vi (Int.tmod x nv)) (λw _=>p7 (P:=Tryz.prog) (t:=3) (k:=.i64) (x:=x) (y:=nv) q1 w) [5,6]<| T_n 3 [(9,vi (zY ((Int.tmod x nv)+nv))),(10,vi nv)] ?_
 obtain⟨q2,h⟩:=h
 exact T_v1 11 (binN .rem 3 (vi (zY ((Int.tmod x nv)+nv))) (vi nv)) (vi (Int.tmod (zY ((Int.tmod x nv)+nv)) nv)) (λw _=>p7 (P:=Tryz.prog) (t:=3) (k:=.i64) (x:=(zY ((Int.tmod x nv)+nv))) (y:=nv) q2 w) [9,10]<| T_nr 1 [4] [vi (Int.tmod (zY ((Int.tmod x nv)+nv)) nv)] hQ h
end bT

/-! moraine/morainelaw15.fix -/
namespace bN
def K0:=Func.code Tryz.f16
end bN
def bN.pt(nv:Int)(H:zV)(R:zk):Prop:=
 R (.int .u64 (IntKind.wrap .u64 (zY ((Int.tmod nv 1000)*8)))) H
namespace bN
set_option maxRecDepth 100000 in
theorem link{nv:Int}{H:zV}{R:zk}(h:pt nv H R):C nv H R:=by
 refine T_en K0 7 Tryz.func16 ?_
 intro w0 Q hQ
 unfold pt zY at h
 exact T_su [(0,vi nv)]<| ar 0<| T_ed 1 [] []<| ar 1<| T_nr 5 [2] [vu (IntKind.wrap .u64 (zY ((Int.tmod nv 1000)*8)))] hQ h
end bN

/-! moraine/morainelaw15.begun -/
namespace bY
def K0:=Func.code Tryz.f9
def K2:=cb K0
def K4:=cb K2
def K6:=cb K4
def K14:=cb K6
def K16:=cb K14
def K18:=cb K16
def K24:=cb K18
def K25:=ca K24
def K28:=cb K25
def K29:=ca K28
def K30:=ca K29
end bY
def bY.pt(H:zV)(R:zk):Prop:=
 iU.C 200 H (λv H1=> ∃(ra:zW) (rb:Int),v=.tuple #[.pointer ra,.int .i64 rb]/\
 if rb=0 then(
 eM ra (
 R (.pointer none) H1) (λf=>
 ∀(b:Nat) (H2:zV),b=H1.size->H2=H1.push (.cells #[.slice none 0 0] 64)->
 ∀(d:Nat) (H3:zV),d=H2.size->H3=H2.push (.cells ([.pointer (some f)]++List.replicate 41 (.int .u64 0)++[.pointer (some (ad b))]:List Value).toArray 38)->
 gV.C (some f) H3 (λaq H4=> ∃m p:Int,aq=.tuple #[.int .u64 m,.int .i64 p]/\
 if p=0 then(
 (aJ H4 ((ad d).add 1) 0 1)/\ ∀H5,H5=aP H4 ((ad d).add 1) [.int .u64 m] 0->
 ∃(u:zv) (m31:Int->zV->Nat),u 0 H5/\ ∀(i:Int) (H6:zV),u i H6->
 if i<40 then(
 ∃J:Bool->zV->Prop,(
 if(Int.tmod i 5)=0 then(
 J true H6)
 else
 J ((Int.tmod i 5)==1) H6)/\ ∀(y:Bool) (H7:zV),J y H7->
 if y=true then(
 bN.C i H7 (λak H8=> ∃x:Int,ak=.int .u64 x/\
 cG.C (some f) x 20 H8 (λam H9=> ∃j q:Int,am=.tuple #[.int .u64 j,.int .i64 q]/\
 if q=0 then(
 zw i 40/\
 (aJ H9 (((ad d).add 2).add (Int.toNat i*1)) 0 1)/\ ∀aa,aa=aP H9 (((ad d).add 2).add (Int.toNat i*1)) [.int .u64 j] 0->
 (u (zY (i+1)) aa/\m31 (zY (i+1)) aa<m31 i H6))
 else
 R (.pointer none) H9)))
 else
 if(Int.tmod i 5)=2 then(
 dt.C (some f) (ByteArray.mk #[107]) H7 (λan ah=> ∃l o:Int,an=.tuple #[.int .u64 l,.int .i64 o]/\
 if o=0 then(
 zw i 40/\
 (aJ ah (((ad d).add 2).add (Int.toNat i*1)) 0 1)/\ ∀ab,ab=aP ah (((ad d).add 2).add (Int.toNat i*1)) [.int .u64 l] 0->
 (u (zY (i+1)) ab/\m31 (zY (i+1)) ab<m31 i H6))
 else
 R (.pointer none) ah))
 else
 if(Int.tmod i 5)=3 then(
 bN.C i H7 (λal ai=> ∃s:Int,al=.int .u64 s/\
 zw i 40/\
 (aJ ai (((ad d).add 2).add (Int.toNat i*1)) 0 1)/\ ∀z,z=aP ai (((ad d).add 2).add (Int.toNat i*1)) [.int .u64 s] 0->
 (u (zY (i+1)) z/\m31 (zY (i+1)) z<m31 i H6)))
 else
 if(Int.tmod i 5)=4 then(
 bN.C i H7 (λao aj=> ∃ae:Int,ao=.int .u64 ae/\
 dY.C (some f) ae 20 aj (λap ag=> ∃g r:Int,ap=.tuple #[.int .u64 g,.int .i64 r]/\
 if r=0 then(
 zw i 40/\
 (aJ ag (((ad d).add 2).add (Int.toNat i*1)) 0 1)/\ ∀ac,ac=aP ag (((ad d).add 2).add (Int.toNat i*1)) [.int .u64 g] 0->
 (u (zY (i+1)) ac/\m31 (zY (i+1)) ac<m31 i H6))
 else
 R (.pointer none) ag)))
 else
 zw i 40/\
 (aJ H7 (((ad d).add 2).add (Int.toNat i*1)) 0 1)/\ ∀af,af=aP H7 (((ad d).add 2).add (Int.toNat i*1)) [.int .u64 0] 0->
 (u (zY (i+1)) af/\m31 (zY (i+1)) af<m31 i H6))
 else
 R (.pointer (some (ad d))) H6)
 else
 R (.pointer none) H4)))
 else
 R (.pointer none) H1)
namespace bY
set_option maxRecDepth 100000 in
theorem link{H:zV}{R:zk}(h:pt H R):C H R:=by
 refine T_en K0 79 Tryz.func9 ?_
 intro w0 Q hQ
 unfold pt zY at h
 refine T_su []<| ar 0<| T_ne 1 []<| ar 1<| T_c (some 9) h ?_;clear h
 rintro v H1 ⟨ra,rb,rfl,h⟩
 refine⟨[(9,.tuple #[vp ra,vi rb])],pk,?_⟩
 refine T_ne 5 [(1,vp ra),(2,vi rb)]<| T_sz<| ar 2<| T_nd 3 [2] [(14,.bool (rb !=0))] ?_
 by_cases c1:rb=0
 ·rw[if_pos c1]at h
  refine N_bd 14 (bne_eq_false_iff_eq.mpr c1)<| T_nd 1 [] [(15,vp ra)] ?_
  rcases ra with _ | f
  ·rw[onPtr_none]at h
   exact T_ne 2 [(1,vp none),(17,.bool true)]<| T_tz 17<| ar 3<| T_nr 1 [0] [vp none] hQ h
  rw[onPtr_some]at h
  refine T_ne 2 [(1,vp (some f)),(17,.bool false)]<| T_fz 17<| T_kt<| ar 4<| T_nd 2 [17] [(18,vp (some f)),(19,.agg #[vs none 0 0])]<| T_nw (some 20) (λb=>vp (pa b)) (.cells #[vs none 0 0] 64) ?_
  intro b H2 e3 e4
  replace h:=h b H2 e3 e4
  refine T_pd [19] [(20,vp (pa b))]<| T_nd 1 [18,20] [(21,.agg ([vp (some f)]++List.replicate 41 (vu 0)++[vp (pa b)]:List Value).toArray)]<| T_nw (some 22) (λb=>vp (pa b)) (.cells ([vp (some f)]++List.replicate 41 (vu 0)++[vp (pa b)]:List Value).toArray 38) ?_
  intro d H3 e5 e6
  replace h:=h d H3 e5 e6
  refine T_pd [21] [(22,vp (pa d))]<| T_ed 1 [22] [(3,vp (pa d))]<| ar 5<| T_nd 1 [] [(24,vp (some f))]<| T_c (some 25) h ?_;clear h
  rintro aq H4 ⟨m,p,rfl,h⟩
  refine T_pd [24] [(25,.tuple #[vu m,vi p])]<| T_ed 5 [25] [(2,vi p),(4,vu m)]<| T_sz<| ar 6<| T_ed 2 [2] [(29,.bool (p !=0))] ?_
  by_cases c7:p=0
  ·rw[if_pos c7]at h
   refine aI 29 (bne_eq_false_iff_eq.mpr c7)<| T_kt<| ar 8<| T_nd 4 [4,29] [(31,vu m),(33,vp (some ((ad d).add 1)))] ?_
   obtain⟨q10,h⟩:=h
   refine dV 31 (vu m) q10 ?_
   intro H5 e9
   replace h:=h H5 e9
   refine T_pd [31,33] []<| T_e<| T_sz<| ar 9<| T_ed 1 [] [(5,vi 0)]<| T_bz 0 ?_
   obtain⟨u,m31,i11,i12⟩:=h
   refine cu (x:=K30) (σ:=Int) (λs_=> [(1,vp (some f)),(3,vp (pa d)),(5,vi s_)]) (λs_ H=>u s_ H) (λs_ H=>m31 s_ H) (0:Int) (by kernel_rfl) i11 sk ?_
   rintro i H6 i13
   have h:=i12 i H6 i13
   refine T_su [(1,vp (some f)),(3,vp (pa d)),(5,vi i)]<| T_sz<| ar 10<| T_ed 2 [] [(35,.bool (decide (i<40)))] ?_
   by_cases c14:i<40
   ·rw[if_pos c14]at h
    refine aH 35 (zX c14)<| T_kt<| T_sz<| T_bz 1<| ar 12<| T_ed 1 [35] [(6,vu 0)]<| ar 13<| T_ed 1 [] [(7,vi 0)]<| T_sz<| ar 14<| T_ed 2 [] [(39,vi (Int.tmod i 5))]<| T_bz 2<| T_sz<| ar 15<| T_ne 2 [(1,vp (some f)),(3,vp (pa d)),(5,vi i),(6,vu 0),(7,vi 0),(39,vi (Int.tmod i 5)),(40,.bool ((Int.tmod i 5)==0))] ?_
    obtain⟨J,h,j17⟩:=h
    refine nO (σ:=Bool) (λs_=> [(1,vp (some f)),(3,vp (pa d)),(5,vi i),(6,vu 0),(7,vi 0),(39,vi (Int.tmod i 5)),(40,.bool s_)]) (λs_ H=>J s_ H) ?_ ?_
    ·rintro y H7 j18
     replace h:=j17 y H7 j18
     refine T_su [(1,vp (some f)),(3,vp (pa d)),(5,vi i),(6,vu 0),(7,vi 0),(39,vi (Int.tmod i 5)),(40,.bool y)]<| aB ?_
     by_cases c19:y=true
     ·rw[if_pos c19]at h
      have b20:y=true:=c19
      refine fl [(1,vp (some f)),(3,vp (pa d)),(5,vi i),(6,vu 0),(7,vi 0),(39,vi (Int.tmod i 5)),(40,.bool true)] (by rw[b20]) ?_
      clear b20
      refine T_tz 40<| T_rz 17<| T_nd 2 [6,7,39,40] [(44,vp (some f)),(45,vi i)]<| T_c (some 46) h ?_;clear h
      rintro ak H8 ⟨x,rfl,h⟩
      refine T_pd [45] [(46,vu x)]<| T_c (some 47) h ?_;clear h
      rintro am H9 ⟨j,q,rfl,h⟩
      refine T_pd [44,46] [(47,.tuple #[vu j,vi q])]<| T_nd 5 [47] [(6,vu j),(7,vi q)]<| zq<| aC<| aB<| T_sz<| ar 24<| T_ed 2 [7] [(71,.bool (q !=0))] ?_
      by_cases c21:q=0
      ·rw[if_pos c21]at h
       refine aI 71 (bne_eq_false_iff_eq.mpr c21)<| T_kt<| T_rz 26<| T_nd 5 [6,71] [(73,vi i),(74,vu j),(76,vp (some ((ad d).add 2)))] ?_
       obtain⟨q23,h⟩:=h
       refine T_v1 77 (aT 35 (vp (some ((ad d).add 2))) (vi i)) (vp (some (((ad d).add 2).add (Int.toNat i*1)))) (λw _=>aR (P:=Tryz.prog) (t:=35) (elem:=31) (sz:=1) (n:=40) (a:=((ad d).add 2)) (k:=.i64) (i:=i) Tryz.underlying35 (λ_=>by kernel_rfl) q23.1 q23.2 w) [73,76] ?_
       obtain⟨q25,h⟩:=h
       refine dV 31 (vu j) q25 ?_
       intro aa e24
       replace h:=h aa e24
       exact T_pd [74,77] []<| zq<| aC<| aB<| T_rz 11<| T_ed 3 [5] [(5,vi (zY (i+1)))]<| aQ ((zY (i+1)):Int) sk h
      rw[if_neg c21]at h
      exact aH 71 (bne_iff_ne.mpr c21)<| ar 25<| T_nr 1 [0] [vp none] hQ h
     rw[if_neg c19]at h
     have b20:y=false:=zZ c19
     refine fl [(1,vp (some f)),(3,vp (pa d)),(5,vi i),(6,vu 0),(7,vi 0),(39,vi (Int.tmod i 5)),(40,.bool false)] (by rw[b20]) ?_
     clear b20
     refine T_fz 40<| ar 18<| T_ed 2 [40] [(50,.bool ((Int.tmod i 5)==2))] ?_
     by_cases c26:(Int.tmod i 5)=2
     ·rw[if_pos c26]at h
      refine aH 50 (zK c26)<| T_rz 19<| T_nd 1 [6,7,39,50] [(53,vp (some f))]<| T_c (some 54) h ?_;clear h
      rintro an ah ⟨l,o,rfl,h⟩
      refine T_pd [53] [(54,.tuple #[vu l,vi o])]<| T_nd 5 [54] [(6,vu l),(7,vi o)]<| zq<| aC<| aB<| T_sz<| ar 24<| T_ed 2 [7] [(71,.bool (o !=0))] ?_
      by_cases c28:o=0
      ·rw[if_pos c28]at h
       refine aI 71 (bne_eq_false_iff_eq.mpr c28)<| T_kt<| T_rz 26<| T_nd 5 [6,71] [(73,vi i),(74,vu l),(76,vp (some ((ad d).add 2)))] ?_
       obtain⟨q30,h⟩:=h
       refine T_v1 77 (aT 35 (vp (some ((ad d).add 2))) (vi i)) (vp (some (((ad d).add 2).add (Int.toNat i*1)))) (λw _=>aR (P:=Tryz.prog) (t:=35) (elem:=31) (sz:=1) (n:=40) (a:=((ad d).add 2)) (k:=.i64) (i:=i) Tryz.underlying35 (λ_=>by kernel_rfl) q30.1 q30.2 w) [73,76] ?_
       obtain⟨q32,h⟩:=h
       refine dV 31 (vu l) q32 ?_
       intro ab e31
       replace h:=h ab e31
       exact T_pd [74,77] []<| zq<| aC<| aB<| T_rz 11<| T_ed 3 [5] [(5,vi (zY (i+1)))]<| aQ ((zY (i+1)):Int) sk h
      rw[if_neg c28]at h
      exact aH 71 (bne_iff_ne.mpr c28)<| ar 25<| T_nr 1 [0] [vp none] hQ h
     rw[if_neg c26]at h
     refine aI 50 (zJ c26)<| ar 20<| T_ed 2 [50] [(57,.bool ((Int.tmod i 5)==3))] ?_
     by_cases c33:(Int.tmod i 5)=3
     ·rw[if_pos c33]at h
      refine aH 57 (zK c33)<| T_rz 21<| T_nd 1 [6,39,57] [(59,vi i)]<| T_c (some 60) h ?_;clear h
      rintro al ai ⟨s,rfl,h⟩
      refine T_pd [59] [(60,vu s)]<| T_nd 1 [60] [(6,vu s)]<| zq<| aC<| aB<| T_sz<| ar 24<| T_ed 2 [7] [(71,.bool false)]<| T_fz 71<| T_kt<| T_rz 26<| T_nd 5 [6,71] [(73,vi i),(74,vu s),(76,vp (some ((ad d).add 2)))] ?_
      obtain⟨q35,h⟩:=h
      refine T_v1 77 (aT 35 (vp (some ((ad d).add 2))) (vi i)) (vp (some (((ad d).add 2).add (Int.toNat i*1)))) (λw _=>aR (P:=Tryz.prog) (t:=35) (elem:=31) (sz:=1) (n:=40) (a:=((ad d).add 2)) (k:=.i64) (i:=i) Tryz.underlying35 (λ_=>by kernel_rfl) q35.1 q35.2 w) [73,76] ?_
      obtain⟨q37,h⟩:=h
      refine dV 31 (vu s) q37 ?_
      intro z e36
      replace h:=h z e36
      exact T_pd [74,77] []<| zq<| aC<| aB<| T_rz 11<| T_ed 3 [5] [(5,vi (zY (i+1)))]<| aQ ((zY (i+1)):Int) sk h
     rw[if_neg c33]at h
     refine aI 57 (zJ c33)<| ar 22<| T_ed 2 [39,57] [(61,.bool ((Int.tmod i 5)==4))] ?_
     by_cases c38:(Int.tmod i 5)=4
     ·rw[if_pos c38]at h
      refine aH 61 (zK c38)<| T_rz 23<| T_nd 2 [6,7,61] [(64,vp (some f)),(65,vi i)]<| T_c (some 66) h ?_;clear h
      rintro ao aj ⟨ae,rfl,h⟩
      refine T_pd [65] [(66,vu ae)]<| T_c (some 67) h ?_;clear h
      rintro ap ag ⟨g,r,rfl,h⟩
      refine T_pd [64,66] [(67,.tuple #[vu g,vi r])]<| T_nd 5 [67] [(6,vu g),(7,vi r)]<| zq<| aC<| aB<| T_sz<| ar 24<| T_ed 2 [7] [(71,.bool (r !=0))] ?_
      by_cases c40:r=0
      ·rw[if_pos c40]at h
       refine aI 71 (bne_eq_false_iff_eq.mpr c40)<| T_kt<| T_rz 26<| T_nd 5 [6,71] [(73,vi i),(74,vu g),(76,vp (some ((ad d).add 2)))] ?_
       obtain⟨q42,h⟩:=h
       refine T_v1 77 (aT 35 (vp (some ((ad d).add 2))) (vi i)) (vp (some (((ad d).add 2).add (Int.toNat i*1)))) (λw _=>aR (P:=Tryz.prog) (t:=35) (elem:=31) (sz:=1) (n:=40) (a:=((ad d).add 2)) (k:=.i64) (i:=i) Tryz.underlying35 (λ_=>by kernel_rfl) q42.1 q42.2 w) [73,76] ?_
       obtain⟨q44,h⟩:=h
       refine dV 31 (vu g) q44 ?_
       intro ac e43
       replace h:=h ac e43
       exact T_pd [74,77] []<| zq<| aC<| aB<| T_rz 11<| T_ed 3 [5] [(5,vi (zY (i+1)))]<| aQ ((zY (i+1)):Int) sk h
      rw[if_neg c40]at h
      exact aH 71 (bne_iff_ne.mpr c40)<| ar 25<| T_nr 1 [0] [vp none] hQ h
     rw[if_neg c38]at h
     refine aI 61 (zJ c38)<| T_k<| aC<| aB<| T_sz<| ar 24<| T_ed 2 [7,61] [(71,.bool false)]<| T_fz 71<| T_kt<| T_rz 26<| T_nd 5 [6,71] [(73,vi i),(74,vu 0),(76,vp (some ((ad d).add 2)))] ?_
     obtain⟨q45,h⟩:=h
     refine T_v1 77 (aT 35 (vp (some ((ad d).add 2))) (vi i)) (vp (some (((ad d).add 2).add (Int.toNat i*1)))) (λw _=>aR (P:=Tryz.prog) (t:=35) (elem:=31) (sz:=1) (n:=40) (a:=((ad d).add 2)) (k:=.i64) (i:=i) Tryz.underlying35 (λ_=>by kernel_rfl) q45.1 q45.2 w) [73,76] ?_
     obtain⟨q47,h⟩:=h
     refine dV 31 (vu 0) q47 ?_
     intro af e46
     replace h:=h af e46
     exact T_pd [74,77] []<| zq<| aC<| aB<| T_rz 11<| T_ed 3 [5] [(5,vi (zY (i+1)))]<| aQ ((zY (i+1)):Int) sk h
    by_cases c48:(Int.tmod i 5)=0
    ·rw[if_pos c48]at h
     have b49:((Int.tmod i 5)==0)=true:=zK c48
     refine fl [(1,vp (some f)),(3,vp (pa d)),(5,vi i),(6,vu 0),(7,vi 0),(39,vi (Int.tmod i 5)),(40,.bool true)] (by simp only[b49,Bool.not_true,Bool.not_false]) ?_
     clear b49
     exact T_tz 40<| T_kt<| jD (true:Bool) sk h
    rw[if_neg c48]at h
    have b49:((Int.tmod i 5)==0)=false:=zJ c48
    refine fl [(1,vp (some f)),(3,vp (pa d)),(5,vi i),(6,vu 0),(7,vi 0),(39,vi (Int.tmod i 5)),(40,.bool false)] (by simp only[b49,Bool.not_true,Bool.not_false]) ?_
    clear b49
    exact T_fz 40<| T_rz 16<| T_ed 2 [40] [(40,.bool ((Int.tmod i 5)==1))]<| jD (((Int.tmod i 5)==1):Bool) sk h
   rw[if_neg c14]at h
   exact aI 35 (zQ c14)<| zj 0<| aA<| aA<| aN<| aB<| ar 27<| T_nr 2 [0] [vp (pa d)] hQ h
  rw[if_neg c7]at h
  exact aH 29 (bne_iff_ne.mpr c7)<| ar 7<| T_nr 1 [0] [vp none] hQ h
 rw[if_neg c1]at h
 exact N_bd 14 (bne_iff_ne.mpr c1)<| T_ed 3 [14] [(17,.bool true)]<| T_tz 17<| ar 3<| T_nr 1 [0] [vp none] hQ h
end bY

/-! (*moraine/seg.Mem).Taken -/
namespace da
def K0:=Func.code Tryz.f100
def K2:=cb K0
def K4:=cb K2
def K12:=cb K4
def K13:=ca K12
def K16:=cb K13
def K17:=ca K16
def K18:=ca K17
end da
def da.pt(m f:zW)(d g:Nat)(H:zV)(R:zk):Prop:=
 ∀(b:Nat) (H1:zV),b=H.size->H1=H.push (.cells #[.pointer m] 103)->
 ∃x:zW,hat H1 (ad b)=some (.pointer x)/\
 eM x (
 R (.slice none 0 0) H1) (λxA=>
 ∃af:zW,hat H1 (ad b)=some (.pointer af)/\
 ∃ac:Addr,af=some ac/\
 ∃(xB:zW) (xN xC:Nat),hat H1 ac=some (.slice xB xN xC)/\
 ∃(s:zW->Nat->Nat->zv) (m19:zW->Nat->Nat->Int->zV->Nat),s none 0 0 0 H1/\ ∀(lB:zW) (lN:Nat) (lC:Nat) (s15:Int) (H2:zV),s lB lN lC s15 H2->
 if s15< (xN:Int)then(
 ∃ae:zW,hat H2 (ad b)=some (.pointer ae)/\
 ∃ag:Addr,ae=some ag/\
 ∃(r:zW) (n o:Nat),hat H2 ag=some (.slice r n o)/\
 ∃j:Addr,r=some j/\
 zw s15 n/\
 ∃q:Int,hat H2 ((j.add (Int.toNat s15*72)).add 7)=some (.int .i64 q)/\
 if q>0 then(
 if(d:Int)=0 then(
 ∀(aa:Nat) (H3:zV),aa=H2.size->H3=H2.push (.cells #[.int .i64 s15] 3)->
 fN 1 3 8 [.int .i64 0] lB lN lC (some (ad aa)) 1 H3 (λap y H4=>
 (s ap (lN+1) y (zY (s15+1)) H4/\m19 ap (lN+1) y (zY (s15+1)) H4<m19 lB lN lC s15 H2)))
 else
 ∃ab:Int,hat H2 (j.add (Int.toNat s15*72))=some (.int .i64 ab)/\
 bS.C f d g ab H2 (λv H5=> ∃u:Bool,v=.bool u/\
 if u=true then(
 ∀(z:Nat) (H6:zV),z=H5.size->H6=H5.push (.cells #[.int .i64 s15] 3)->
 fN 1 3 8 [.int .i64 0] lB lN lC (some (ad z)) 1 H6 (λp l H7=>
 (s p (lN+1) l (zY (s15+1)) H7/\m19 p (lN+1) l (zY (s15+1)) H7<m19 lB lN lC s15 H2)))
 else
 (s lB lN lC (zY (s15+1)) H5/\m19 lB lN lC (zY (s15+1)) H5<m19 lB lN lC s15 H2)))
 else
 (s lB lN lC (zY (s15+1)) H2/\m19 lB lN lC (zY (s15+1)) H2<m19 lB lN lC s15 H2))
 else
 slices_SortFunc_int_int.C lB lN lC (.func (.func 132) #[] #[.pointer (some (ad b))]) H2 (λ_ H8=>
 R (.slice lB lN lC) H8))
namespace da
theorem link{m f:zW}{d g:Nat}{H:zV}{R:zk}(h:pt m f d g H R):C m f d g H R:=by
 refine T_en K0 52 Tryz.func100 ?_
 intro w0 Q hQ
 unfold pt zY at h
 refine T_su [(0,vp m),(1,vs f d g)]<| ar 0<| T_nw (some 2) (λb=>vp (pa b)) (.cells #[vp m] 103) ?_
 intro b H1 e1 e2
 replace h:=h b H1 e1 e2
 refine T_pd [0] [(2,vp (pa b))]<| T_ed 1 [] []<| T_sz<| ar 1 ?_
 obtain⟨x,q3,h⟩:=h
 refine T_l1 8 103 q3 [] ?_
 rcases x with _ | xA
 ·rw[onPtr_none]at h
  exact T_ed 1 [8] [(9,.bool true)]<| T_tz 9<| ar 2<| T_nr 1 [4] [vs none 0 0] hQ h
 rw[onPtr_some]at h
 refine T_ed 1 [8] [(9,.bool false)]<| T_fz 9<| T_kt<| ar 3<| T_ed 1 [9] [(5,vs none 0 0)]<| T_sz<| ar 4 ?_
 obtain⟨af,q4,h⟩:=h
 refine T_l1 10 103 q4 [] ?_
 obtain⟨ac,rfl,h⟩:=h
 refine T_nd 2 [10] [(12,vp (some ac))] ?_
 obtain⟨xB,xN,xC,q5,h⟩:=h
 refine T_l1 13 180 q5 [12]<| T_ed 2 [13] [(14,vi xN),(15,vi 0)]<| T_bz 0 ?_
 obtain⟨s,m19,i6,i7⟩:=h
 refine cu (x:=K18) (σ:=zW×Nat×Nat×Int) (λs_=> [(1,vs f d g),(2,vp (pa b)),(5,vs s_.1 s_.2.1 s_.2.2.1),(14,vi xN),(15,vi s_.2.2.2)]) (λs_ H=>s s_.1 s_.2.1 s_.2.2.1 s_.2.2.2 H) (λs_ H=>m19 s_.1 s_.2.1 s_.2.2.1 s_.2.2.2 H) ((none,0,0,0):zW×Nat×Nat×Int) (by kernel_rfl) i6 sk ?_
 rintro⟨lB,lN,lC,s15⟩ H2 i8
 have h:=i7 lB lN lC s15 H2 i8
 refine T_su [(1,vs f d g),(2,vp (pa b)),(5,vs lB lN lC),(14,vi xN),(15,vi s15)]<| ar 5<| T_ed 1 [] [(16,.bool (decide (s15< (xN:Int))))]<| T_sz ?_
 by_cases c9:s15< (xN:Int)
 ·rw[if_pos c9]at h
  refine aH 16 (zX c9)<| T_kt<| T_sz<| T_bz 1<| ar 6<| T_ed 2 [16] [(6,vi s15)]<| ar 7 ?_
  obtain⟨ae,q11,h⟩:=h
  refine T_l1 18 103 q11 [] ?_
  obtain⟨ag,rfl,h⟩:=h
  refine T_nd 2 [18] [(20,vp (some ag))] ?_
  obtain⟨r,n,o,q12,h⟩:=h
  refine T_l1 21 180 q12 [20]<| T_nd 1 [] [(22,vi s15)] ?_
  obtain⟨j,rfl,q13,h⟩:=h
  refine T_xd (some 23) 180 179 72 j n o .i64 s15 Tryz.underlying180 q13.1 q13.2 [21,22] [(23,vp (some (j.add (Int.toNat s15*72))))]<| T_ed 1 [23] [(7,vp (some (j.add (Int.toNat s15*72))))]<| ar 8<| T_nd 3 [] [(26,vp (some ((j.add (Int.toNat s15*72)).add 7)))] ?_
  obtain⟨q,q14,h⟩:=h
  refine T_l1 27 3 q14 [26]<| T_nd 2 [27] [(29,.bool (decide (q>0)))] ?_
  by_cases c15:q>0
  ·rw[if_pos c15]at h
   refine N_bd 29 (zX c15)<| T_nd 4 [] [(33,.bool ((d:Int)==0))] ?_
   by_cases c17:(d:Int)=0
   ·rw[if_pos c17]at h
    refine N_bd 33 (zK c17)<| T_ed 9 [7,29,33] [(42,.bool true)]<| T_tz 42<| T_rz 9<| T_nd 2 [5,6,42] [(43,vs lB lN lC),(44,vi s15)]<| T_nw (some 45) (λb=>vs (pa b) 1 1) (.cells #[vi s15] 3) ?_
    intro aa H3 e19 e20
    replace h:=h aa H3 e19 e20
    refine T_pd [44] [(45,vs (pa aa) 1 1)]<| N_op (some 46) (fq #[60,60] 60 #[vs lB lN lC,vs (pa aa) 1 1]) _ (λ_=>by kernel_rfl) (eJ (T:=3) (sz:=1) (bytes:=8) (zero:=(vi 0:Value)) Tryz.underlying60 Tryz.underlying60 rfl (show Tryz.prog.info? 3=some Tryz.t3 from by kernel_rfl) (by kernel_rfl) (by kernel_rfl) (by decide) (by kernel_rfl) (by first | exact h | (simpa only[Value.cells,List.toList_toArray]using h))) ?_;clear h
    rintro _ H4 ⟨ap,y,rfl,h⟩
    exact T_pd [43,45] [(46,vs ap (lN+1) y)]<| T_nd 1 [46] [(5,vs ap (lN+1) y)]<| zq<| aC<| aB<| T_rz 10<| T_ed 2 [15] [(15,vi (zY (s15+1)))]<| aQ ((ap,(lN+1),y,(zY (s15+1))):zW×Nat×Nat×Int) sk h
   rw[if_neg c17]at h
   refine N_bd 33 (zJ c17)<| T_nd 5 [7] [(34,vs f d g),(38,vp (some (j.add (Int.toNat s15*72))))] ?_
   obtain⟨ab,q21,h⟩:=h
   refine T_l1 39 3 q21 [38]<| T_c (some 40) h ?_;clear h
   rintro v H5 ⟨u,rfl,h⟩
   refine T_pd [34,39] [(40,.bool u)]<| T_ed 2 [29,33,40] [(42,.bool u)] ?_
   by_cases c22:u=true
   ·rw[if_pos c22]at h
    refine aH 42 c22<| T_rz 9<| T_nd 2 [5,6,42] [(43,vs lB lN lC),(44,vi s15)]<| T_nw (some 45) (λb=>vs (pa b) 1 1) (.cells #[vi s15] 3) ?_
    intro z H6 e24 e25
    replace h:=h z H6 e24 e25
    refine T_pd [44] [(45,vs (pa z) 1 1)]<| N_op (some 46) (fq #[60,60] 60 #[vs lB lN lC,vs (pa z) 1 1]) _ (λ_=>by kernel_rfl) (eJ (T:=3) (sz:=1) (bytes:=8) (zero:=(vi 0:Value)) Tryz.underlying60 Tryz.underlying60 rfl (show Tryz.prog.info? 3=some Tryz.t3 from by kernel_rfl) (by kernel_rfl) (by kernel_rfl) (by decide) (by kernel_rfl) (by first | exact h | (simpa only[Value.cells,List.toList_toArray]using h))) ?_;clear h
    rintro _ H7 ⟨p,l,rfl,h⟩
    exact T_pd [43,45] [(46,vs p (lN+1) l)]<| T_nd 1 [46] [(5,vs p (lN+1) l)]<| zq<| aC<| aB<| T_rz 10<| T_ed 2 [15] [(15,vi (zY (s15+1)))]<| aQ ((p,(lN+1),l,(zY (s15+1))):zW×Nat×Nat×Int) sk h
   rw[if_neg c22]at h
   exact aI 42 (zZ c22)<| T_k<| aC<| aB<| T_rz 10<| T_ed 2 [6,15,42] [(15,vi (zY (s15+1)))]<| aQ ((lB,lN,lC,(zY (s15+1))):zW×Nat×Nat×Int) sk h
  rw[if_neg c15]at h
  refine N_bd 29 (zQ c15)<| T_ed 13 [7,29] [(42,.bool false)]<| T_fz 42<| T_k ?_
  exact aC<| aB<| T_rz 10<| T_ed 2 [6,15,42] [(15,vi (zY (s15+1)))]<| aQ ((lB,lN,lC,(zY (s15+1))):zW×Nat×Nat×Int) sk h
 rw[if_neg c9]at h
 refine aI 16 (zQ c9)<| zj 0<| aA<| aA<| aN<| aB<| ar 11<| T_n 2 [(5,vs lB lN lC),(48,vs lB lN lC),(49,.func (.func 132) #[] #[vp (pa b)])]<| T_c (some 50) h ?_;clear h
 intro v_2 H8 h
 exact T_pd [48,49] []<| T_e<| ar 12<| T_nr 2 [4] [vs lB lN lC] hQ h
end da

/-! (*moraine/seg.Mem).Free -/
namespace fE
def K0:=Func.code Tryz.f101
end fE
def fE.pt(m:zW)(H:zV)(R:zk):Prop:=
 eM m (
 R (.int .i64 0) H) (λmA=>
 ∃x:Int,hat H (mA.add 2)=some (.int .i64 x)/\
 R (.int .i64 x) H)
namespace fE
theorem link{m:zW}{H:zV}{R:zk}(h:pt m H R):C m H R:=by
 refine T_en K0 9 Tryz.func101 ?_
 intro w0 Q hQ
 unfold pt at h
 refine T_su [(0,vp m)]<| ar 0<| T_ed 1 [] []<| T_sz<| ar 1<| T_nd 1 [] [(3,vp m)] ?_
 rcases m with _ | mA
 ·rw[onPtr_none]at h
  exact T_ne 1 [(0,vp none),(4,.bool true)]<| T_tz 4<| ar 2<| T_nr 1 [2] [vi 0] hQ h
 rw[onPtr_some]at h
 refine T_ne 1 [(0,vp (some mA)),(4,.bool false)]<| T_fz 4<| T_kt<| ar 3<| T_n 3 [(7,vp (some (mA.add 2)))] ?_
 obtain⟨x,q1,h⟩:=h
 exact T_l1 8 3 q1 [7]<| T_nr 1 [2] [vi x] hQ h
end fE

/-! (*moraine/seg.Mem).Taken.1 -/
namespace fj
def K0:=Func.code Tryz.f132
def K2:=cb K0
def K3:=ca K2
end fj
def fj.pt(a b:Int)(p:zW)(H:zV)(R:zk):Prop:=
 ∃d:Addr,p=some d/\
 ∃x:zW,hat H d=some (.pointer x)/\
 ∃xA:Addr,x=some xA/\
 ∃(xB:zW) (xN xC:Nat),hat H xA=some (.slice xB xN xC)/\
 ∃g:Addr,xB=some g/\
 zw a xN/\
 ∃j:Int,hat H ((g.add (Int.toNat a*72)).add 7)=some (.int .i64 j)/\
 ∃s:zW,hat H d=some (.pointer s)/\
 ∃l:Addr,s=some l/\
 ∃(r:zW) (m n:Nat),hat H l=some (.slice r m n)/\
 ∃f:Addr,r=some f/\
 zw b m/\
 ∃q:Int,hat H ((f.add (Int.toNat b*72)).add 7)=some (.int .i64 q)/\
 cmp_Compare_int.C j q H (λv H1=> ∃o:Int,v=.int .i64 o/\
 R (.int .i64 o) H1)
namespace fj
theorem link{a b:Int}{p:zW}{H:zV}{R:zk}(h:pt a b p H R):C a b p H R:=by
 refine T_en K0 23 Tryz.func132 ?_
 intro w0 Q hQ
 unfold pt at h
 refine T_su [(0,vi a),(1,vi b),(2,vp p)]<| ar 0<| T_ed 1 [] []<| T_sz ?_
 obtain⟨d,rfl,x,q1,xA,rfl,xB,xN,xC,q2,g,rfl,q3,j,q4,s,q5,l,rfl,r,m,n,q6,f,rfl,q7,q,q8,h⟩:=h
 refine yz 1 (Code.ops K3) [(16,d,[vp (some xA)]),(16,xA,[vs (some g) xN xC]),(16,((g.add (Int.toNat a*72)).add 7),[vi j]),(16,d,[vp (some l)]),(16,l,[vs (some f) m n]),(16,((f.add (Int.toNat b*72)).add 7),[vi q])] 18 (bv 18 0) (show aE _ _ _ from⟨⟨q1,trivial⟩,⟨q2,trivial⟩,⟨q4,trivial⟩,⟨q5,trivial⟩,⟨q6,trivial⟩,⟨q8,trivial⟩,trivial⟩)<| T_g 0 (some 6) (vp (some xA)) (bv 18 1) [(0,vi a),(1,vi b),(2,vp (some d)),(6,vp (some xA))] (aM 103 (vp (some d))) (yx 16 yZ)<| aD 1 7 (vp (some xA)) (bv 18 3) [6]<| aD 2 8 (vp (some xA)) (bv 18 7) [7]<| T_g1 3 9 (vs (some g) xN xC) (bv 18 15) [8] (aM 180 (vp (some xA))) (yx 16 yX)<| aD 4 10 (vi a) (bv 18 31) [0]<| T_g1 5 11 (vp (some (g.add (Int.toNat a*72)))) (bv 18 63) [9,10] (aT 180 (vs (some g) xN xC) (vi a)) (λ_ w _ _ _=>dm (P:=Tryz.prog) (t:=180) (elem:=179) (sz:=72) (a:=g) (len:=xN) (cap:=xC) (k:=.i64) (i:=a) Tryz.underlying180 (λ_=>by kernel_rfl) q3.1 q3.2 w)<| aD 6 12 (vp (some ((g.add (Int.toNat a*72)).add 7))) (bv 18 127) [11]<| T_g1 7 13 (vi j) (bv 18 255) [12] (aM 3 (vp (some ((g.add (Int.toNat a*72)).add 7)))) (yx 16 yQ)<| T_g1 8 14 (vp (some l)) (bv 18 511) [2] (aM 103 (vp (some d))) (yx 16 yJ)<| aD 9 15 (vp (some l)) (bv 18 1023) [14]<| aD 10 16 (vp (some l)) (bv 18 2047) [15]<| T_g1 11 17 (vs (some f) m n) (bv 18 4095) [16] (aM 180 (vp (some l))) (yx 16 yK)<| aD 12 18 (vi b) (bv 18 8191) [1]<| T_g1 13 19 (vp (some (f.add (Int.toNat b*72)))) (bv 18 16383) [17,18] (aT 180 (vs (some f) m n) (vi b)) (λ_ w _ _ _=>dm (P:=Tryz.prog) (t:=180) (elem:=179) (sz:=72) (a:=f) (len:=m) (cap:=n) (k:=.i64) (i:=b) Tryz.underlying180 (λ_=>by kernel_rfl) q7.1 q7.2 w)<| aD 14 20 (vp (some ((f.add (Int.toNat b*72)).add 7))) (bv 18 32767) [19]<| T_g1 15 21 (vi q) (bv 18 65535) [20] (aM 3 (vp (some ((f.add (Int.toNat b*72)).add 7)))) (yx 16 yV)<| yj 16 (some 22) (bv 18 131071) 133 #[vi j,vi q] h ?_;clear h
 rintro v H1 ⟨o,rfl,h⟩
 refine⟨[(22,vi o)],pk,(show aE _ _ _ from⟨trivial,trivial,trivial,trivial,trivial,trivial,trivial⟩),?_⟩
 exact T_g 17 (some 5) (vi o) (bv 18 262143) [(5,vi o)] (pure (.value (vi o)):Sem Next) (λ_ _ _ _ _=>rfl)<| dp [(5,vi o)] sk<| yv<| aB<| gi [5] [vi o] hQ h
end fj

/-! (*moraine/seg.Mem).Give -/
namespace eq
def K0:=Func.code Tryz.f134
end eq
def eq.pt(m:zW)(d:Int)(H:zV)(R:zk):Prop:=
 eL.C m d H (λv H1=> ∃x:zW,v=.pointer x/\
 eM x (
 R (.int .i64 19) H1) (λxA=>
 (aJ H1 xA 0 72)/\ ∀H2,H2=aP H1 xA (List.replicate 8 (.int .i64 0)++List.replicate 64 (.int .u64 0):List Value) 0->
 ∃mA:Addr,m=some mA/\
 ∃b:Int,hat H2 (mA.add 2)=some (.int .i64 b)/\
 (aJ H2 (mA.add 2) 0 1)/\ ∀H3,H3=aP H2 (mA.add 2) [.int .i64 (zY (b+1))] 0->
 R (.int .i64 0) H3))
namespace eq
theorem link{m:zW}{d:Int}{H:zV}{R:zk}(h:pt m d H R):C m d H R:=by
 refine T_en K0 21 Tryz.func134 ?_
 intro w0 Q hQ
 unfold pt zY at h
 refine T_su [(0,vp m),(1,vi d)]<| ar 0<| T_ed 1 [] []<| ar 1<| T_nd 2 [1] [(6,vp m),(7,vi d)]<| T_c (some 8) h ?_;clear h
 rintro v H1 ⟨x,rfl,h⟩
 refine T_pd [6,7] [(8,vp x)]<| T_ed 1 [8] [(5,vp x)]<| T_sz<| ar 2<| T_nd 1 [] [(9,vp x)] ?_
 rcases x with _ | xA
 ·rw[onPtr_none]at h
  exact T_ed 1 [5,9] [(5,vp none),(10,.bool true)]<| T_tz 10<| ar 3<| T_nr 1 [4] [vi 19] hQ h
 rw[onPtr_some]at h
 refine T_ed 1 [5,9] [(5,vp (some xA)),(10,.bool false)]<| T_fz 10<| T_kt<| ar 4<| T_nd 3 [5,10] [(12,.agg (List.replicate 8 (vi 0)++List.replicate 64 (vu 0):List Value).toArray),(13,vp (some xA))] ?_
 obtain⟨q2,h⟩:=h
 refine ma none (ic 179 (vp (some xA)) (.agg (List.replicate 8 (vi 0)++List.replicate 64 (vu 0):List Value).toArray)) (λHz=>Hz=aP H1 xA (List.replicate 8 (vi 0)++List.replicate 64 (vu 0):List Value) 0) (λ_=>by kernel_rfl) (by intro w hw;obtain⟨w1,g1,g2,g3⟩:=gO (P:=Tryz.prog) (H:=H1) (t:=179) (a:=xA) (v:=(.agg (List.replicate 8 (vi 0)++List.replicate 64 (vu 0):List Value).toArray)) (List.replicate 8 (vi 0)++List.replicate 64 (vu 0):List Value) 72 (by kernel_rfl) (by kernel_rfl) (λ_=>by kernel_rfl) (by kernel_rfl) q2 w hw;exact⟨w1,g1,g2,g3⟩) ?_
 intro H2 e1
 replace h:=h H2 e1
 refine⟨[(0,vp m)],pk,?_⟩
 refine T_e<| ar 5<| T_n 1 [(14,vp m)] ?_
 obtain⟨mA,rfl,h⟩:=h
 refine T_n 2 [(14,vp (some mA)),(16,vp (some (mA.add 2)))] ?_
 obtain⟨b,q3,h⟩:=h
 refine T_l1 17 3 q3 [16]<| T_n 3 [(18,vi (zY (b+1))),(20,vp (some (mA.add 2)))] ?_
 obtain⟨q5,h⟩:=h
 refine dV 3 (vi (zY (b+1))) q5 ?_
 intro H3 e4
 replace h:=h H3 e4
 refine⟨[],pk,?_⟩
 exact T_e<| ar 6<| T_nr 1 [4] [vi 0] hQ h
end eq

/-! (*moraine/space.Space).Fresh -/
namespace df
def K0:=Func.code Tryz.f103
def K2:=cb K0
def K8:=cb K2
def K9:=ca K8
def K10:=ca K9
def K12:=cb K10
def K14:=cb K12
def K17:=ca K14
def K19:=ca K17
def K21:=cb K19
def K22:=ca K21
def K25:=cb K22
def K26:=ca K25
def K27:=ca K26
end df
def df.pt(s f:zW)(b d:Nat)(H:zV)(R:zk):Prop:=
 eM s (
 R (.tuple #[]) H) (λsA=>
 ∃(l:zv) (m11:Int->zV->Nat),l 0 H/\ ∀(s9:Int) (H1:zV),l s9 H1->
 if s9<5 then(
 ∃(m:zv) (m28:Int->zV->Nat),m 0 H1/\ ∀(j:Int) (H2:zV),m j H2->
 if j< (b:Int)then(
 ∃g:Addr,f=some g/\
 zw j b/\
 ∃x:Int,hat H2 (g.add (Int.toNat j*1))=some (.int .i64 x)/\
 if x=s9 then(
 zw s9 5/\
 (aJ H2 ((sA.add 1).add (Int.toNat s9*4)) 0 4)/\ ∀H3,H3=aP H2 ((sA.add 1).add (Int.toNat s9*4)) [.int .i64 0,.int .i64 0,.int .i64 0,.int .i64 0] 0->
 (m (zY (j+1)) H3/\m28 (zY (j+1)) H3<m28 j H2))
 else
 (m (zY (j+1)) H2/\m28 (zY (j+1)) H2<m28 j H2))
 else
 if(b:Int)=0 then(
 zw s9 5/\
 (aJ H2 ((sA.add 1).add (Int.toNat s9*4)) 0 4)/\ ∀H4,H4=aP H2 ((sA.add 1).add (Int.toNat s9*4)) [.int .i64 0,.int .i64 0,.int .i64 0,.int .i64 0] 0->
 (l (zY (s9+1)) H4/\m11 (zY (s9+1)) H4<m11 s9 H1))
 else
 (l (zY (s9+1)) H2/\m11 (zY (s9+1)) H2<m11 s9 H1))
 else
 R (.tuple #[]) H1)
namespace df
theorem link{s f:zW}{b d:Nat}{H:zV}{R:zk}(h:pt s f b d H R):C s f b d H R:=by
 refine T_en K0 38 Tryz.func103 ?_
 intro w0 Q hQ
 unfold pt zY at h
 refine T_su [(0,vp s),(1,vs f b d)]<| T_sz<| ar 0<| T_nd 1 [] [(7,vp s)] ?_
 rcases s with _ | sA
 ·rw[onPtr_none]at h
  exact T_ed 1 [0,7] [(0,vp none),(8,.bool true)]<| T_tz 8<| gi [] [] hQ h
 rw[onPtr_some]at h
 refine T_ed 1 [0,7] [(0,vp (some sA)),(8,.bool false)]<| T_fz 8<| T_kt<| ar 1<| T_ed 1 [8] [(9,vi 0)]<| T_bz 0 ?_
 obtain⟨l,m11,i1,i2⟩:=h
 refine cu (x:=K10) (σ:=Int) (λs_=> [(0,vp (some sA)),(1,vs f b d),(9,vi s_)]) (λs_ H=>l s_ H) (λs_ H=>m11 s_ H) (0:Int) (by kernel_rfl) i1 sk ?_
 rintro s9 H1 i3
 have h:=i2 s9 H1 i3
 refine T_su [(0,vp (some sA)),(1,vs f b d),(9,vi s9)]<| ar 2<| T_ed 1 [] [(10,.bool (decide (s9<5)))]<| T_sz ?_
 by_cases c4:s9<5
 ·rw[if_pos c4]at h
  refine aH 10 (zX c4)<| T_kt<| T_sz<| T_bz 1<| ar 3<| T_ed 2 [10] [(4,vi s9)]<| T_sz<| ar 4<| T_ed 3 [] [(12,vs f b d),(13,vi b),(14,vi 0)]<| T_bz 2 ?_
  obtain⟨m,m28,i6,i7⟩:=h
  refine cu (x:=K27) (σ:=Int) (λs_=> [(0,vp (some sA)),(1,vs f b d),(4,vi s9),(9,vi s9),(12,vs f b d),(13,vi b),(14,vi s_)]) (λs_ H=>m s_ H) (λs_ H=>m28 s_ H) (0:Int) (by kernel_rfl) i6 sk ?_
  rintro j H2 i8
  have h:=i7 j H2 i8
  refine T_su [(0,vp (some sA)),(1,vs f b d),(4,vi s9),(9,vi s9),(12,vs f b d),(13,vi b),(14,vi j)]<| ar 5<| T_ed 1 [] [(15,.bool (decide (j< (b:Int))))]<| T_sz ?_
  by_cases c9:j< (b:Int)
  ·rw[if_pos c9]at h
   refine aH 15 (zX c9)<| T_kt<| T_sz<| T_bz 3<| ar 6<| T_ud [15] [] ?_
   obtain⟨g,rfl,q11,h⟩:=h
   refine T_xd (some 16) 60 3 1 g b d .i64 j Tryz.underlying60 q11.1 q11.2 [1,12] [(1,vs (some g) b d),(12,vs (some g) b d),(16,vp (some (g.add (Int.toNat j*1))))] ?_
   obtain⟨x,q12,h⟩:=h
   refine T_l1 17 3 q12 [16]<| T_ed 1 [17] [(6,vi x)]<| ar 7<| T_ed 3 [6] [(20,.bool (x==s9))] ?_
   by_cases c13:x=s9
   ·rw[if_pos c13]at h
    refine aH 20 (zK c13)<| T_rz 8<| T_nd 5 [20] [(22,vi s9),(23,.agg #[vi 0,vi 0,vi 0,vi 0]),(25,vp (some (sA.add 1)))] ?_
    obtain⟨q15,h⟩:=h
    refine T_v1 26 (aT 105 (vp (some (sA.add 1))) (vi s9)) (vp (some ((sA.add 1).add (Int.toNat s9*4)))) (λw _=>aR (P:=Tryz.prog) (t:=105) (elem:=104) (sz:=4) (n:=5) (a:=(sA.add 1)) (k:=.i64) (i:=s9) Tryz.underlying105 (λ_=>by kernel_rfl) q15.1 q15.2 w) [22,25] ?_
    obtain⟨q17,h⟩:=h
    refine fm 104 [vi 0,vi 0,vi 0,vi 0] q17 ?_
    intro H3 e16
    replace h:=h H3 e16
    exact T_pd [23,26] []<| zq<| aC<| aB<| T_rz 9<| T_ed 2 [14] [(14,vi (zY (j+1)))]<| aQ ((zY (j+1)):Int) sk h
   rw[if_neg c13]at h
   exact aI 20 (zJ c13)<| T_k<| aC<| aB<| T_rz 9<| T_ed 2 [14,20] [(14,vi (zY (j+1)))]<| aQ ((zY (j+1)):Int) sk h
  rw[if_neg c9]at h
  refine aI 15 (zQ c9)<| zj 2<| aA<| aA<| aN<| aB<| ar 10<| T_ed 3 [12,13,14,15] [(30,.bool ((b:Int)==0))] ?_
  by_cases c18:(b:Int)=0
  ·rw[if_pos c18]at h
   refine aH 30 (zK c18)<| T_rz 11<| T_nd 5 [4,30] [(32,vi s9),(33,.agg #[vi 0,vi 0,vi 0,vi 0]),(35,vp (some (sA.add 1)))] ?_
   obtain⟨q20,h⟩:=h
   refine T_v1 36 (aT 105 (vp (some (sA.add 1))) (vi s9)) (vp (some ((sA.add 1).add (Int.toNat s9*4)))) (λw _=>aR (P:=Tryz.prog) (t:=105) (elem:=104) (sz:=4) (n:=5) (a:=(sA.add 1)) (k:=.i64) (i:=s9) Tryz.underlying105 (λ_=>by kernel_rfl) q20.1 q20.2 w) [32,35] ?_
   obtain⟨q22,h⟩:=h
   refine fm 104 [vi 0,vi 0,vi 0,vi 0] q22 ?_
   intro H4 e21
   replace h:=h H4 e21
   exact T_pd [33,36] []<| zq<| aC<| aB<| T_rz 12<| T_ed 2 [9] [(9,vi (zY (s9+1)))]<| aQ ((zY (s9+1)):Int) sk h
  rw[if_neg c18]at h
  exact aI 30 (zJ c18)<| T_k<| aC<| aB<| T_rz 12<| T_ed 2 [4,9,30] [(9,vi (zY (s9+1)))]<| aQ ((zY (s9+1)):Int) sk h
 rw[if_neg c4]at h
 exact aI 10 (zQ c4)<| zj 0<| aA<| aA<| aN<| fp (fn:=Tryz.f103) [] hQ (show cF _ _ _ [] _ from .nil) h
end df

/-! (*moraine/space.Space).Give -/
namespace dG
def K0:=Func.code Tryz.f106
def K2:=cb K0
def K4:=cb K2
def K11:=ca K4
def K14:=cb K11
def K16:=cb K14
def K17:=ca K16
end dG
def dG.pt(s:zW)(d:Int)(H:zV)(R:zk):Prop:=
 cY.C s H (λv H1=> ∃x:Bool,v=.bool x/\
 if x=true then(
 R (.int .i64 19) H1)
 else
 ∃sA:Addr,s=some sA/\
 ∃ag:zW,hat H1 sA=some (.pointer ag)/\
 bI.C ag d H1 (λal H2=> ∃(r p ab j l f g:Int) (rb:Bool),al=.tuple #[.agg #[.int .i64 r,.int .i64 p,.int .i64 ab,.int .i64 j,.int .i64 l,.int .i64 f,.int .i64 g],.bool rb]/\
 ∀(b:Nat) (H3:zV),b=H2.size->H3=H2.push (.cells #[.int .i64 0,.int .i64 0,.int .i64 0,.int .i64 0,.int .i64 0,.int .i64 0,.int .i64 0] 158)->
 (aJ H3 (ad b) 0 7)/\ ∀H4,H4=aP H3 (ad b) [.int .i64 r,.int .i64 p,.int .i64 ab,.int .i64 j,.int .i64 l,.int .i64 f,.int .i64 g] 0->
 if rb=true then(
 ∃o:Int,hat H4 (ad b)=some (.int .i64 o)/\
 ∃u:Int,hat H4 ((ad b).add 1)=some (.int .i64 u)/\
 zw o 5/\
 zw u 4/\
 ∃y:Int,hat H4 (((sA.add 1).add (Int.toNat o*4)).add (Int.toNat u*1))=some (.int .i64 y)/\
 if y=(zY (d+1))then(
 ∃m:Int,hat H4 (ad b)=some (.int .i64 m)/\
 ∃q:Int,hat H4 ((ad b).add 1)=some (.int .i64 q)/\
 zw m 5/\
 zw q 4/\
 (aJ H4 (((sA.add 1).add (Int.toNat m*4)).add (Int.toNat q*1)) 0 1)/\ ∀H5,H5=aP H4 (((sA.add 1).add (Int.toNat m*4)).add (Int.toNat q*1)) [.int .i64 0] 0->
 ∃af:zW,hat H5 sA=some (.pointer af)/\
 eq.C af d H5 (λai H6=> ∃ah:Int,ai=.int .i64 ah/\
 R (.int .i64 ah) H6))
 else
 ∃aa:zW,hat H4 sA=some (.pointer aa)/\
 eq.C aa d H4 (λaj H7=> ∃ac:Int,aj=.int .i64 ac/\
 R (.int .i64 ac) H7))
 else
 ∃z:zW,hat H4 sA=some (.pointer z)/\
 eq.C z d H4 (λak H8=> ∃ae:Int,ak=.int .i64 ae/\
 R (.int .i64 ae) H8)))
namespace dG
theorem link{s:zW}{d:Int}{H:zV}{R:zk}(h:pt s d H R):C s d H R:=by
 refine T_en K0 49 Tryz.func106 ?_
 intro w0 Q hQ
 unfold pt zY at h
 refine T_su [(0,vp s),(1,vi d)]<| ar 0<| T_ed 1 [] []<| T_sz<| ar 1<| T_nd 1 [] [(7,vp s)]<| T_c (some 8) h ?_;clear h
 rintro v H1 ⟨x,rfl,h⟩
 refine T_pd [7] [(8,.bool x)]<| T_e ?_
 by_cases c1:x=true
 ·rw[if_pos c1]at h
  exact aH 8 c1<| ar 2<| T_nr 1 [4] [vi 19] hQ h
 rw[if_neg c1]at h
 refine aI 8 (zZ c1)<| T_kt<| T_sz<| ar 3<| T_nd 1 [8] [(10,vp s)] ?_
 obtain⟨sA,rfl,h⟩:=h
 refine T_nd 2 [0,10] [(0,vp (some sA)),(12,vp (some sA))] ?_
 obtain⟨ag,q3,h⟩:=h
 refine T_l1 13 103 q3 [12]<| T_nd 1 [] [(14,vi d)]<| T_c (some 15) h ?_;clear h
 rintro al H2 ⟨r,p,ab,j,l,f,g,rb,rfl,h⟩
 refine T_pd [13,14] [(15,.tuple #[.agg #[vi r,vi p,vi ab,vi j,vi l,vi f,vi g],.bool rb])]<| T_nd 3 [15] [(16,.agg #[vi r,vi p,vi ab,vi j,vi l,vi f,vi g]),(17,.bool rb)]<| T_nw (some 5) (λb=>vp (pa b)) (.cells #[vi 0,vi 0,vi 0,vi 0,vi 0,vi 0,vi 0] 158) ?_
 intro b H3 e4 e5
 replace h:=h b H3 e4 e5
 refine T_pd [] [(5,vp (pa b))] ?_
 obtain⟨q7,h⟩:=h
 refine fm 158 [vi r,vi p,vi ab,vi j,vi l,vi f,vi g] q7 ?_
 intro H4 e6
 replace h:=h H4 e6
 refine T_pd [16] []<| T_ed 1 [17] [(6,.bool rb)]<| T_sz<| qe 4<| T_q1 18 (.bool rb) [6]<| T_q1 19 (.bool rb) [18] ?_
 by_cases c8:rb=true
 ·rw[if_pos c8]at h
  refine Q_bd 19 c8<| T_q1 20 (vp (some sA)) []<| T_q1 21 (vp (pa b)) [] ?_
  obtain⟨o,q10,h⟩:=h
  refine mj (some 22) 3 q10 [21] [(22,vi o)]<| T_q1 23 (vp (some ((ad b).add 1))) [] ?_
  obtain⟨u,q11,h⟩:=h
  refine mj (some 24) 3 q11 [23] [(24,vi u)]<| T_q1 25 (vp (some sA)) [20]<| T_q1 26 (vp (some (sA.add 1))) [25] ?_
  obtain⟨q12,h⟩:=h
  refine Q_op (some 27) (aT 105 (vp (some (sA.add 1))) (vi o)) (vp (some ((sA.add 1).add (Int.toNat o*4)))) (λ_=>by kernel_rfl) (λw _=>aR (P:=Tryz.prog) (t:=105) (elem:=104) (sz:=4) (n:=5) (a:=(sA.add 1)) (k:=.i64) (i:=o) Tryz.underlying105 (λ_=>by kernel_rfl) q12.1 q12.2 w) [(0,vp (some sA)),(1,vi d),(5,vp (pa b)),(19,.bool true),(24,vi u),(27,vp (some ((sA.add 1).add (Int.toNat o*4))))] pk ?_
  obtain⟨q13,h⟩:=h
  refine Q_op (some 28) (aT 104 (vp (some ((sA.add 1).add (Int.toNat o*4)))) (vi u)) (vp (some (((sA.add 1).add (Int.toNat o*4)).add (Int.toNat u*1)))) (λ_=>by kernel_rfl) (λw _=>aR (P:=Tryz.prog) (t:=104) (elem:=3) (sz:=1) (n:=4) (a:=((sA.add 1).add (Int.toNat o*4))) (k:=.i64) (i:=u) Tryz.underlying104 (λ_=>by kernel_rfl) q13.1 q13.2 w) [(0,vp (some sA)),(1,vi d),(5,vp (pa b)),(19,.bool true),(28,vp (some (((sA.add 1).add (Int.toNat o*4)).add (Int.toNat u*1))))] pk ?_
  obtain⟨y,q14,h⟩:=h
  refine T_ql (some 29) 3 q14 [(0,vp (some sA)),(1,vi d),(5,vp (pa b)),(19,.bool true),(29,vi y)]<| T_q1 30 (vi d) []<| T_q1 31 (vi (zY (d+1))) [30]<| T_q1 32 (.bool (y==(zY (d+1)))) [29,31]<| T_q1 33 (.bool (y==(zY (d+1)))) [19,32]<| lx [(0,vp (some sA)),(1,vi d),(5,vp (pa b)),(33,.bool (y==(zY (d+1))))] sk<| T_qe ?_
  by_cases c15:y=(zY (d+1))
  ·rw[if_pos c15]at h
   refine aH 33 (zK c15) ?_
   obtain⟨m,q17,q,q18,q19,q20,h⟩:=h
   refine yz 5 (Code.ops K17) [(9,(ad b),[vi m]),(9,((ad b).add 1),[vi q])] 10 (bv 10 0) (show aE _ _ _ from⟨⟨q17,trivial⟩,⟨q18,trivial⟩,trivial⟩)<| T_gp 0 (some 34) (vp (some sA)) (bv 10 1) [(0,vp (some sA)),(1,vi d),(5,vp (pa b)),(34,vp (some sA))]<| aD 1 35 (vp (pa b)) (bv 10 3) []<| T_g1 2 36 (vi m) (bv 10 7) [35] (aM 3 (vp (pa b))) (yx 9 yZ)<| aD 3 37 (vp (some ((ad b).add 1))) (bv 10 15) [5]<| T_g1 4 38 (vi q) (bv 10 31) [37] (aM 3 (vp (some ((ad b).add 1)))) (yx 9 yX)<| aD 5 39 (vp (some sA)) (bv 10 63) [34]<| aD 6 40 (vp (some (sA.add 1))) (bv 10 127) [39]<| T_g1 7 41 (vp (some ((sA.add 1).add (Int.toNat m*4)))) (bv 10 255) [36,40] (aT 105 (vp (some (sA.add 1))) (vi m)) (λ_ w _ _ _=>aR (P:=Tryz.prog) (t:=105) (elem:=104) (sz:=4) (n:=5) (a:=(sA.add 1)) (k:=.i64) (i:=m) Tryz.underlying105 (λ_=>by kernel_rfl) q19.1 q19.2 w)<| T_g1 8 42 (vp (some (((sA.add 1).add (Int.toNat m*4)).add (Int.toNat q*1)))) (bv 10 511) [38,41] (aT 104 (vp (some ((sA.add 1).add (Int.toNat m*4)))) (vi q)) (λ_ w _ _ _=>aR (P:=Tryz.prog) (t:=104) (elem:=3) (sz:=1) (n:=4) (a:=((sA.add 1).add (Int.toNat m*4))) (k:=.i64) (i:=q) Tryz.underlying104 (λ_=>by kernel_rfl) q20.1 q20.2 w) ?_
   obtain⟨q22,h⟩:=h
   refine fI 9 none (bv 10 1023) (ic 3 (vp (some (((sA.add 1).add (Int.toNat m*4)).add (Int.toNat q*1)))) (vi 0)) (λHz=>Hz=aP H4 (((sA.add 1).add (Int.toNat m*4)).add (Int.toNat q*1)) [vi 0] 0) (by kernel_rfl) (λ_=>by kernel_rfl) (gO [vi 0] 1 (by kernel_rfl) (by kernel_rfl) (λ_=>by kernel_rfl) (by kernel_rfl) q22) (by kernel_rfl) ?_
   intro H5 e21
   replace h:=h H5 e21
   refine⟨[(0,vp (some sA)),(1,vi d)],pk,(show aE _ _ _ from⟨trivial,trivial,trivial⟩),?_⟩
   refine dp [(0,vp (some sA)),(1,vi d)] sk ?_
   refine yv<| aB<| ar 6<| T_n 3 [(1,vi d),(45,vp (some sA))] ?_
   obtain⟨af,q23,h⟩:=h
   refine T_l1 46 103 q23 [45]<| T_nd 1 [1] [(47,vi d)]<| T_c (some 48) h ?_;clear h
   rintro ai H6 ⟨ah,rfl,h⟩
   refine⟨[(48,vi ah)],pk,?_⟩
   exact T_nr 1 [4] [vi ah] hQ h
  rw[if_neg c15]at h
  refine aI 33 (zJ c15)<| T_kt<| ar 6<| T_n 3 [(1,vi d),(45,vp (some sA))] ?_
  obtain⟨aa,q24,h⟩:=h
  refine T_l1 46 103 q24 [45]<| T_nd 1 [1] [(47,vi d)]<| T_c (some 48) h ?_;clear h
  rintro aj H7 ⟨ac,rfl,h⟩
  refine⟨[(48,vi ac)],pk,?_⟩
  exact T_nr 1 [4] [vi ac] hQ h
 rw[if_neg c8]at h
 refine Q_bd 19 (zZ c8)<| T_q1 20 (undef) []<| T_q1 21 (undef) []<| T_q1 22 (undef) [21]<| T_q1 23 (undef) []<| T_q1 24 (undef) [23]<| T_q1 25 (undef) [20]<| T_q1 26 (undef) [25]<| T_q1 27 (undef) [22,26] ?_
 refine T_q1 28 (undef) [24,27]<| T_q1 29 (undef) [28]<| T_q1 30 (undef) []<| T_q1 31 (undef) [30]<| T_q1 32 (undef) [29,31]<| T_q1 33 (.bool false) [19,32]<| lx [(0,vp (some sA)),(1,vi d),(5,vp (pa b)),(33,.bool false)] sk<| T_qe<| T_fz 33<| T_kt<| ar 6<| T_n 3 [(1,vi d),(45,vp (some sA))] ?_
 obtain⟨z,q25,h⟩:=h
 refine T_l1 46 103 q25 [45]<| T_nd 1 [1] [(47,vi d)]<| T_c (some 48) h ?_;clear h
 rintro ak H8 ⟨ae,rfl,h⟩
 refine⟨[(48,vi ae)],pk,?_⟩
 exact T_nr 1 [4] [vi ae] hQ h
end dG

/-! cmp.Compare[int] -/
namespace cmp_Compare_int
def K0:=Func.code Tryz.f133
end cmp_Compare_int
def cmp_Compare_int.pt(x y:Int)(H:zV)(R:zk):Prop:=
 cmp_isNaN_int.C x H (λv H1=> ∃b:Bool,v=.bool b/\
 cmp_isNaN_int.C y H1 (λd H2=> ∃a:Bool,d=.bool a/\
 if b=true then(
 if a=true then(
 R (.int .i64 0) H2)
 else
 R (.int .i64 (-1)) H2)
 else
 if a=true then(
 R (.int .i64 1) H2)
 else
 if x<y then(
 R (.int .i64 (-1)) H2)
 else
 if x>y then(
 R (.int .i64 1) H2)
 else
 R (.int .i64 0) H2))
namespace cmp_Compare_int
theorem link{x y:Int}{H:zV}{R:zk}(h:pt x y H R):C x y H R:=by
 refine T_en K0 20 Tryz.func133 ?_
 intro w0 Q hQ
 unfold pt at h
 refine T_su [(0,vi x),(1,vi y)]<| ar 0<| T_ed 1 [] []<| ar 1<| T_nd 1 [] [(7,vi x)]<| T_c (some 8) h ?_;clear h
 rintro v H1 ⟨b,rfl,h⟩
 refine T_pd [7] [(8,.bool b)]<| T_ed 1 [8] [(5,.bool b)]<| ar 2<| T_nd 1 [] [(9,vi y)]<| T_c (some 10) h ?_;clear h
 rintro d H2 ⟨a,rfl,h⟩
 refine T_pd [9] [(10,.bool a)]<| T_ed 1 [10] [(6,.bool a)]<| T_sz<| ar 3<| T_ed 1 [5] [(11,.bool b)] ?_
 by_cases c1:b=true
 ·rw[if_pos c1]at h
  refine aH 11 c1<| T_sz<| ar 4<| T_ne 1 [(12,.bool a)] ?_
  by_cases c3:a=true
  ·rw[if_pos c3]at h
   exact aH 12 c3<| ar 5<| T_nr 1 [4] [vi 0] hQ h
  rw[if_neg c3]at h
  exact aI 12 (zZ c3)<| T_kt<| ar 6<| T_nr 1 [4] [vi (-1)] hQ h
 rw[if_neg c1]at h
 refine aI 11 (zZ c1)<| T_kt<| T_sz<| ar 7<| T_ed 1 [6,11] [(13,.bool a)] ?_
 by_cases c5:a=true
 ·rw[if_pos c5]at h
  exact aH 13 c5<| ar 8<| T_nr 1 [4] [vi 1] hQ h
 rw[if_neg c5]at h
 refine aI 13 (zZ c5)<| T_kt<| T_sz<| ar 9<| T_ed 3 [13] [(16,.bool (decide (x<y)))] ?_
 by_cases c7:x<y
 ·rw[if_pos c7]at h
  exact aH 16 (zX c7)<| ar 10<| T_nr 1 [4] [vi (-1)] hQ h
 rw[if_neg c7]at h
 refine aI 16 (zQ c7)<| T_kt<| T_sz<| ar 11<| T_ne 3 [(19,.bool (decide (x>y)))] ?_
 by_cases c9:x>y
 ·rw[if_pos c9]at h
  exact aH 19 (zX c9)<| ar 12<| T_nr 1 [4] [vi 1] hQ h
 rw[if_neg c9]at h
 exact aI 19 (zQ c9)<| T_kt<| ar 13<| T_nr 1 [4] [vi 0] hQ h
end cmp_Compare_int

/-! cmp.isNaN[int] -/
namespace cmp_isNaN_int
def K0:=Func.code Tryz.f146
end cmp_isNaN_int
def cmp_isNaN_int.pt(x:Int)(H:zV)(R:zk):Prop:=
 R (.bool (x !=x)) H
namespace cmp_isNaN_int
theorem link{x:Int}{H:zV}{R:zk}(h:pt x H R):C x H R:=by
 refine T_en K0 6 Tryz.func146 ?_
 intro w0 Q hQ
 unfold pt at h
 exact T_su [(0,vi x)]<| ar 0<| T_ed 1 [] []<| ar 1<| T_nr 4 [2] [.bool (x !=x)] hQ h
end cmp_isNaN_int

/-! moraine/gc.Collect -/
namespace fJ
def K0:=Func.code Tryz.f51
def K2:=cb K0
def K4:=cb K2
def K12:=cb K4
def K14:=cb K12
def K20:=cb K14
def K21:=ca K20
def K24:=cb K21
def K25:=ca K24
def K26:=ca K25
end fJ
def fJ.pt(hv:zW)(g o:Int)(l:zW)(b d:Nat)(H:zV)(R:zk):Prop:=
 eM hv (
 R (.int .i64 1) H) (λj=>
 iV.C (some j) H (λv H1=> ∃x:Int,v=.int .i64 x/\
 fS.C (some j) g o x H1 (λap H2=> ∃(ra:zW) (rb:Int),ap=.tuple #[.pointer ra,.int .i64 rb]/\
 if rb=0 then(
 ∃(ag:zv) (m27:Int->zV->Nat),ag 0 H2/\ ∀(n:Int) (H3:zV),ag n H3->
 if n< (b:Int)then(
 ∃m:Addr,l=some m/\
 zw n b/\
 ∃aa:zW,hat H3 (m.add (Int.toNat n*1))=some (.pointer aa)/\
 eM aa (
 (ag (zY (n+1)) H3/\m27 (zY (n+1)) H3<m27 n H3)) (λp=>
 ∃ah:Int,hat H3 p=some (.int .u64 ah)/\
 bB.C ra ah H3 (λal H4=> ∃af:Int,al=.int .u64 af/\
 (aJ H4 p 0 1)/\ ∀H5,H5=aP H4 p [.int .u64 af] 0->
 (ag (zY (n+1)) H5/\m27 (zY (n+1)) H5<m27 n H3))))
 else
 de.C ra H3 (λ_ H6=>
 cP.C ra H6 (λ_ H7=>
 ∃(xB:zW) (xN xC:Nat),hat H7 (j.add 2)=some (.slice xB xN xC)/\
 fT.C ra xB xN xC H7 (λam H8=> ∃(s:zW) (y q:Nat),am=.slice s y q/\
 (aJ H8 (j.add 2) 0 1)/\ ∀H9,H9=aP H8 (j.add 2) [.slice s y q] 0->
 fU.C ra H9 (λ_ ak=>
 ∃(ac:zW) (ae ab:Nat),hat ak (j.add 1)=some (.slice ac ae ab)/\
 gF.C ra ac ae ab ak (λan aj=> ∃(u:zW) (r z:Nat),an=.slice u r z/\
 (aJ aj (j.add 1) 0 1)/\ ∀ai,ai=aP aj (j.add 1) [.slice u r z] 0->
 cV.CD ra ai (λao=>
 R (.int .i64 0) ao)))))))
 else
 R (.int .i64 rb) H2)))
namespace fJ
theorem link{hv:zW}{g o:Int}{l:zW}{b d:Nat}{H:zV}{R:zk}(h:pt hv g o l b d H R):C hv g o l b d H R:=by
 refine T_en K0 68 Tryz.func51 ?_
 intro w0 Q hQ
 unfold pt zY at h
 refine T_su [(0,vp hv),(1,vi g),(2,vi o),(3,vs l b d)]<| ar 0<| T_ed 1 [] []<| T_sz<| ar 1<| T_nd 1 [] [(13,vp hv)] ?_
 rcases hv with _ | j
 ·rw[onPtr_none]at h
  exact T_ed 1 [0,13] [(0,vp none),(14,.bool true)]<| T_tz 14<| ar 2<| T_nr 1 [8] [vi 1] hQ h
 rw[onPtr_some]at h
 refine T_ed 1 [0,13] [(0,vp (some j)),(14,.bool false)]<| T_fz 14<| T_kt<| ar 3<| T_nd 4 [1,2,14] [(16,vp (some j)),(17,vi g),(18,vi o),(19,vp (some j))]<| T_c (some 20) h ?_;clear h
 rintro v H1 ⟨x,rfl,h⟩
 refine T_pd [19] [(20,vi x)]<| T_c (some 21) h ?_;clear h
 rintro ap H2 ⟨ra,rb,rfl,h⟩
 refine T_pd [16,17,18,20] [(21,.tuple #[vp ra,vi rb])]<| T_ed 5 [21] [(9,vp ra),(10,vi rb)]<| T_sz<| ar 4<| T_ed 2 [] [(25,.bool (rb !=0))] ?_
 by_cases c1:rb=0
 ·rw[if_pos c1]at h
  refine aI 25 (bne_eq_false_iff_eq.mpr c1)<| T_kt<| ar 6<| T_nd 1 [10,25] [(27,vp ra)]<| sx none 75 #[vp ra] (λ_=>by kernel_rfl) [(0,vp (some j)),(3,vs l b d),(9,vp ra)] pk<| T_e<| T_sz<| ar 7<| T_ne 3 [(0,vp (some j)),(9,vp ra),(28,vs l b d),(29,vi b),(30,vi 0)]<| T_bz 0 ?_
  obtain⟨ag,m27,i3,i4⟩:=h
  refine cu (x:=K26) (σ:=Int) (λs_=> [(0,vp (some j)),(9,vp ra),(28,vs l b d),(29,vi b),(30,vi s_)]) (λs_ H=>ag s_ H) (λs_ H=>m27 s_ H) (0:Int) (by kernel_rfl) i3 sk ?_
  rintro n H3 i5
  have h:=i4 n H3 i5
  refine T_su [(0,vp (some j)),(9,vp ra),(28,vs l b d),(29,vi b),(30,vi n)]<| ar 8<| T_ed 1 [] [(31,.bool (decide (n< (b:Int))))]<| T_sz ?_
  by_cases c6:n< (b:Int)
  ·rw[if_pos c6]at h
   refine aH 31 (zX c6)<| T_kt<| T_sz<| T_bz 1<| ar 9<| T_ud [31] [] ?_
   obtain⟨m,rfl,q8,h⟩:=h
   refine T_xd (some 32) 96 95 1 m b d .i64 n Tryz.underlying96 q8.1 q8.2 [28] [(28,vs (some m) b d),(32,vp (some (m.add (Int.toNat n*1))))] ?_
   obtain⟨aa,q9,h⟩:=h
   refine T_l1 33 95 q9 [32]<| T_ed 1 [33] [(12,vp aa)]<| ar 10<| T_nd 1 [] [(34,vp aa)] ?_
   rcases aa with _ | p
   ·rw[onPtr_none]at h
    exact T_ed 1 [12,34] [(12,vp none),(35,.bool false)]<| T_fz 35<| T_k<| aC<| aB<| T_rz 12<| T_ed 2 [12,30,35] [(30,vi (zY (n+1)))]<| aQ ((zY (n+1)):Int) sk h
   rw[onPtr_some]at h
   refine T_ed 1 [12,34] [(12,vp (some p)),(35,.bool true)]<| T_tz 35<| T_rz 11<| T_nd 4 [12,35] [(36,vp (some p)),(37,vp ra),(39,vp (some p))] ?_
   obtain⟨ah,q10,h⟩:=h
   refine T_l1 40 31 q10 [39]<| T_c (some 41) h ?_;clear h
   rintro al H4 ⟨af,rfl,h⟩
   refine T_pd [37,40] [(41,vu af)]<| T_nd 1 [36] [(42,vp (some p))] ?_
   obtain⟨q12,h⟩:=h
   refine dV 31 (vu af) q12 ?_
   intro H5 e11
   replace h:=h H5 e11
   exact T_pd [41,42] []<| zq<| aC<| aB<| T_rz 12<| T_ed 2 [30] [(30,vi (zY (n+1)))]<| aQ ((zY (n+1)):Int) sk h
  rw[if_neg c6]at h
  refine aI 31 (zQ c6)<| zj 0<| aA<| aA<| aN<| aB<| ar 13<| T_nd 1 [28,29,30,31] [(44,vp ra)]<| T_c (some 45) h ?_;clear h
  intro v_4 H6 h
  refine T_pd [44] []<| T_e<| ar 14<| T_nd 1 [] [(46,vp ra)]<| T_c (some 47) h ?_;clear h
  intro v_5 H7 h
  refine T_pd [46] []<| T_e<| ar 15<| T_nd 5 [] [(48,vp (some j)),(49,vp ra),(52,vp (some (j.add 2)))] ?_
  obtain⟨xB,xN,xC,q13,h⟩:=h
  refine T_l1 53 85 q13 [52]<| T_c (some 54) h ?_;clear h
  rintro am H8 ⟨s,y,q,rfl,h⟩
  refine T_pd [49,53] [(54,vs s y q)]<| T_nd 2 [48] [(56,vp (some (j.add 2)))] ?_
  obtain⟨q15,h⟩:=h
  refine dV 85 (vs s y q) q15 ?_
  intro H9 e14
  replace h:=h H9 e14
  refine T_pd [54,56] []<| T_e<| ar 16<| T_nd 1 [] [(57,vp ra)]<| T_c (some 58) h ?_;clear h
  intro v_7 ak h
  refine T_pd [57] []<| T_e<| ar 17<| T_n 5 [(59,vp (some j)),(60,vp ra),(63,vp (some (j.add 1)))] ?_
  obtain⟨ac,ae,ab,q16,h⟩:=h
  refine T_l1 64 54 q16 [63]<| T_c (some 65) h ?_;clear h
  rintro an aj ⟨u,r,z,rfl,h⟩
  refine T_pd [60,64] [(65,vs u r z)]<| T_nd 2 [59] [(67,vp (some (j.add 1)))] ?_
  obtain⟨q18,h⟩:=h
  refine dV 54 (vs u r z) q18 ?_
  intro ai e17
  replace h:=h ai e17
  refine⟨[],pk,?_⟩
  refine T_e<| ar 18<| T_ne 1 [(8,vi 0)]<| zx ?_
  show At _ _ _ _ _ (Q .ret)
  refine sD (f:=75) (args:= #[vp ra]) (enters_of Tryz.func75 (by kernel_rfl) rfl) hQ (HD.mono (h) (λao h=>?_))
  exact⟨[vi 0],(show cF _ _ _ [.tmp 8] _ from .tmp (by kernel_rfl) (.nil)),h⟩
 rw[if_neg c1]at h
 exact aH 25 (bne_iff_ne.mpr c1)<| ar 5<| T_nr 2 [8] [vi rb] hQ h
end fJ

/-! moraine/gc.more -/
namespace iV
def K0:=Func.code Tryz.f74
end iV
def iV.pt(hv:zW)(H:zV)(R:zk):Prop:=
 ∃a:Addr,hv=some a/\
 ∃(xB:zW) (xN xC:Nat),hat H (a.add 2)=some (.slice xB xN xC)/\
 R (.int .i64 (zY ((zY (Int.tdiv (xN:Int) 32))+1))) H
namespace iV
theorem link{hv:zW}{H:zV}{R:zk}(h:pt hv H R):C hv H R:=by
 refine T_en K0 10 Tryz.func74 ?_
 intro w0 Q hQ
 unfold pt zY at h
 refine T_su [(0,vp hv)]<| ar 0<| T_ed 1 [] []<| ar 1<| T_n 1 [(3,vp hv)] ?_
 obtain⟨a,rfl,h⟩:=h
 refine T_n 2 [(5,vp (some (a.add 2)))] ?_
 obtain⟨xB,xN,xC,q1,h⟩:=h
 exact T_l1 6 85 q1 [5]<| T_nr 4 [2] [vi (zY ((zY (Int.tdiv (xN:Int) 32))+1))] hQ h
end iV

/-! (*moraine/morainelaw15.play).collect -/
namespace bL
def K0:=Func.code Tryz.f28
def K2:=cb K0
def K4:=cb K2
def K5:=ca K4
def K8:=cb K5
def K9:=ca K8
def K10:=ca K9
end bL
def bL.pt(x:zW)(g:Int)(f:Bool)(H:zV)(R:zk):Prop:=
 ∃xA:Addr,x=some xA/\
 ∀(b:Nat) (H1:zV),b=H.size->H1=H.push (.cells #[.pointer (some (xA.add 1))] 95)->
 ∃(r:zW->Nat->Nat->zv) (m11:zW->Nat->Nat->Int->zV->Nat),r (some (ad b)) 1 1 0 H1/\ ∀(d:zW) (rootsN:Nat) (rootsC:Nat) (i:Int) (H2:zV),r d rootsN rootsC i H2->
 if i<40 then(
 zw i 40/\
 ∀(q:Nat) (H3:zV),q=H2.size->H3=H2.push (.cells #[.pointer (some ((xA.add 2).add (Int.toNat i*1)))] 95)->
 fN 1 95 8 [.pointer none] d rootsN rootsC (some (ad q)) 1 H3 (λap o H4=>
 (r ap (rootsN+1) o (zY (i+1)) H4/\m11 ap (rootsN+1) o (zY (i+1)) H4<m11 d rootsN rootsC i H2)))
 else
 if(f && (decide (g<3)))=true then(
 ∃p:zW,hat H2 xA=some (.pointer p)/\
 fJ.C p g (zY (g+1)) d rootsN rootsC H2 (λv H5=> ∃j:Int,v=.int .i64 j/\
 R (.bool ((j==0) || (j==2))) H5))
 else
 ∃m:zW,hat H2 xA=some (.pointer m)/\
 fJ.C m g g d rootsN rootsC H2 (λs H6=> ∃l:Int,s=.int .i64 l/\
 R (.bool ((l==0) || (l==2))) H6)
namespace bL
set_option maxRecDepth 100000 in
theorem link{x:zW}{g:Int}{f:Bool}{H:zV}{R:zk}(h:pt x g f H R):C x g f H R:=by
 refine T_en K0 49 Tryz.func28 ?_
 intro w0 Q hQ
 unfold pt zY at h
 refine T_su [(0,vp x),(1,vi g),(2,.bool f)]<| ar 0<| T_ed 1 [] []<| ar 1<| T_nd 1 [] [(11,vp x)] ?_
 obtain⟨xA,rfl,h⟩:=h
 refine T_nd 2 [0,11] [(0,vp (some xA)),(13,vp (some (xA.add 1)))]<| T_nw (some 14) (λb=>vs (pa b) 1 1) (.cells #[vp (some (xA.add 1))] 95) ?_
 intro b H1 e1 e2
 replace h:=h b H1 e1 e2
 refine T_pd [13] [(14,vs (pa b) 1 1)]<| T_ed 1 [14] [(7,vs (pa b) 1 1)]<| T_sz<| ar 2<| T_ed 1 [] [(8,vi 0)]<| T_bz 0 ?_
 obtain⟨r,m11,i3,i4⟩:=h
 refine cu (x:=K10) (σ:=zW×Nat×Nat×Int) (λs_=> [(0,vp (some xA)),(1,vi g),(2,.bool f),(7,vs s_.1 s_.2.1 s_.2.2.1),(8,vi s_.2.2.2)]) (λs_ H=>r s_.1 s_.2.1 s_.2.2.1 s_.2.2.2 H) (λs_ H=>m11 s_.1 s_.2.1 s_.2.2.1 s_.2.2.2 H) (((pa b),1,1,0):zW×Nat×Nat×Int) (by kernel_rfl) i3 sk ?_
 rintro⟨d,rootsN,rootsC,i⟩ H2 i5
 have h:=i4 d rootsN rootsC i H2 i5
 refine T_su [(0,vp (some xA)),(1,vi g),(2,.bool f),(7,vs d rootsN rootsC),(8,vi i)]<| T_sz<| ar 3<| T_ed 2 [] [(16,.bool (decide (i<40)))] ?_
 by_cases c6:i<40
 ·rw[if_pos c6]at h
  refine aH 16 (zX c6)<| T_kt<| T_sz<| T_bz 1<| T_rz 5<| T_nd 5 [7,16] [(19,vs d rootsN rootsC),(21,vi i),(23,vp (some (xA.add 2)))] ?_
  obtain⟨q8,h⟩:=h
  refine T_v1 24 (aT 35 (vp (some (xA.add 2))) (vi i)) (vp (some ((xA.add 2).add (Int.toNat i*1)))) (λw _=>aR (P:=Tryz.prog) (t:=35) (elem:=31) (sz:=1) (n:=40) (a:=(xA.add 2)) (k:=.i64) (i:=i) Tryz.underlying35 (λ_=>by kernel_rfl) q8.1 q8.2 w) [21,23]<| T_nw (some 25) (λb=>vs (pa b) 1 1) (.cells #[vp (some ((xA.add 2).add (Int.toNat i*1)))] 95) ?_
  intro q H3 e9 e10
  replace h:=h q H3 e9 e10
  refine T_pd [24] [(25,vs (pa q) 1 1)]<| N_op (some 26) (fq #[96,96] 96 #[vs d rootsN rootsC,vs (pa q) 1 1]) _ (λ_=>by kernel_rfl) (eJ (T:=95) (sz:=1) (bytes:=8) (zero:=(vp none:Value)) Tryz.underlying96 Tryz.underlying96 rfl (show Tryz.prog.info? 95=some Tryz.t95 from by kernel_rfl) (by kernel_rfl) (by kernel_rfl) (by decide) (by kernel_rfl) (by first | exact h | (simpa only[Value.cells,List.toList_toArray]using h))) ?_;clear h
  rintro _ H4 ⟨ap,o,rfl,h⟩
  exact T_pd [19,25] [(26,vs ap (rootsN+1) o)]<| T_nd 1 [26] [(7,vs ap (rootsN+1) o)]<| zq<| aC<| aB<| T_rz 4<| T_ed 3 [8] [(8,vi (zY (i+1)))]<| aQ ((ap,(rootsN+1),o,(zY (i+1))):zW×Nat×Nat×Int) sk h
 rw[if_neg c6]at h
 refine aI 16 (zQ c6)<| zj 0<| aA<| aA<| aN<| aB<| ar 6<| T_ed 2 [8,16] [(9,vi g)]<| T_sz<| ar 7 ?_
 refine gm [(0,vp (some xA)),(1,vi g),(7,vs d rootsN rootsC),(9,vi g),(32,.bool (f && (decide (g<3))))] ?_ ?_
 ·refine aB ?_
  by_cases c13:(f && (decide (g<3)))=true
  ·rw[if_pos c13]at h
   refine aH 32 c13<| T_rz 8<| T_ne 3 [(0,vp (some xA)),(1,vi g),(7,vs d rootsN rootsC),(9,vi (zY (g+1)))]<| ar 9<| T_nd 3 [0] [(37,vp (some xA))] ?_
   obtain⟨p,q15,h⟩:=h
   refine T_l1 38 34 q15 [37]<| T_n 3 [(38,vp p),(39,vi g),(40,vi (zY (g+1))),(41,vs d rootsN rootsC)]<| T_c (some 42) h ?_;clear h
   rintro v H5 ⟨j,rfl,h⟩
   refine⟨[(42,vi j)],pk,?_⟩
   refine T_ne 1 [(10,vi j)]<| ar 10 ?_
   refine gm [(6,.bool ((j==0) || (j==2)))] ?_ ?_
   ·exact aB<| gi [6] [.bool ((j==0) || (j==2))] hQ h
   intro hk
   refine T_n 3 [(10,vi j),(45,.bool (j==0))] ?_
   by_cases c16:j=0
   ·have b17:(j==0)=true:=zK c16
    refine bV [(10,vi j),(45,.bool true)] (by rw[b17]) ?_
    refine T_n 4 [(6,.bool true)]<| zq<| fl [(6,.bool ((j==0) || (j==2)))] (by simp only[b17,BL]) ?_
    exact hk
   have b17:(j==0)=false:=zJ c16
   refine bV [(10,vi j),(45,.bool false)] (by rw[b17]) ?_
   refine T_n 4 [(6,.bool (j==2))]<| zq<| fl [(6,.bool ((j==0) || (j==2)))] (by simp only[b17,BL]) ?_
   exact hk
  rw[if_neg c13]at h
  refine aI 32 (zZ c13)<| T_kt<| ar 9<| T_n 3 [(1,vi g),(7,vs d rootsN rootsC),(9,vi g),(37,vp (some xA))] ?_
  obtain⟨m,q18,h⟩:=h
  refine T_l1 38 34 q18 [37]<| T_n 3 [(38,vp m),(39,vi g),(40,vi g),(41,vs d rootsN rootsC)]<| T_c (some 42) h ?_;clear h
  rintro s H6 ⟨l,rfl,h⟩
  refine⟨[(42,vi l)],pk,?_⟩
  refine T_ne 1 [(10,vi l)]<| ar 10 ?_
  refine gm [(6,.bool ((l==0) || (l==2)))] ?_ ?_
  ·exact aB<| gi [6] [.bool ((l==0) || (l==2))] hQ h
  intro hk
  refine T_n 3 [(10,vi l),(45,.bool (l==0))] ?_
  by_cases c19:l=0
  ·have b20:(l==0)=true:=zK c19
   refine bV [(10,vi l),(45,.bool true)] (by rw[b20]) ?_
   refine T_n 4 [(6,.bool true)]<| zq<| fl [(6,.bool ((l==0) || (l==2)))] (by simp only[b20,BL]) ?_
   exact hk
  have b20:(l==0)=false:=zJ c19
  refine bV [(10,vi l),(45,.bool false)] (by rw[b20]) ?_
  refine T_n 4 [(6,.bool (l==2))]<| zq<| fl [(6,.bool ((l==0) || (l==2)))] (by simp only[b20,BL]) ?_
  exact hk
 intro hk
 refine T_n 2 [(0,vp (some xA)),(1,vi g),(7,vs d rootsN rootsC),(9,vi g),(29,.bool f)] ?_
 by_cases c11:f=true
 ·have b12:f=true:=c11
  refine bV [(0,vp (some xA)),(1,vi g),(7,vs d rootsN rootsC),(9,vi g),(29,.bool true)] (by rw[b12]) ?_
  refine T_nd 3 [29] [(32,.bool (decide (g<3)))]<| zq<| S_bd 32 (b:=(decide (g<3))) (v:=(f && (decide (g<3)))) (by simp only[b12,BL]) ?_
  exact hk
 have b12:f=false:=zZ c11
 refine bV [(0,vp (some xA)),(1,vi g),(7,vs d rootsN rootsC),(9,vi g),(29,.bool false)] (by rw[b12]) ?_
 refine T_nd 3 [29] [(32,.bool false)]<| zq<| S_bd 32 (b:=false) (v:=(f && (decide (g<3)))) (by simp only[b12,BL]) ?_
 exact hk
end bL

/-! moraine/morainelaw15.awake -/
namespace bM
def K0:=Func.code Tryz.f8
end bM
def bM.pt(H:zV)(R:zk):Prop:=
 bY.C H (λv H1=> ∃x:zW,v=.pointer x/\
 eM x (
 R (.bool false) H1) (λxA=>
 aO.C (some xA) 0 0 1 0 false H1 (λm H2=> ∃f:Bool,m=.bool f/\
 if f=true then(
 aO.C (some xA) 0 1 2 0 false H2 (λj H3=> ∃d:Bool,j=.bool d/\
 if d=true then(
 aO.C (some xA) 0 0 3 0 false H3 (λk H4=> ∃a:Bool,k=.bool a/\
 if a=true then(
 bD.C (some xA) H4 (λl H5=> ∃b:Bool,l=.bool b/\
 if b=true then(
 ∃i:zW,hat H5 (xA.add 42)=some (.pointer i)/\
 ∃g:Addr,i=some g/\
 ∃(xB:zW) (xN xC:Nat),hat H5 g=some (.slice xB xN xC)/\
 R (.bool ((xN:Int)==2)) H5)
 else
 R (.bool false) H5))
 else
 R (.bool false) H4))
 else
 R (.bool false) H3))
 else
 R (.bool false) H2)))
namespace bM
set_option maxRecDepth 100000 in
theorem link{H:zV}{R:zk}(h:pt H R):C H R:=by
 refine T_en K0 35 Tryz.func8 ?_
 intro w0 Q hQ
 unfold pt at h
 refine T_su []<| ar 0<| T_ne 1 []<| ar 1<| T_c (some 2) h ?_;clear h
 rintro v H1 ⟨x,rfl,h⟩
 refine⟨[(2,vp x)],pk,?_⟩
 refine T_ne 1 [(1,vp x)]<| ar 2<| T_nd 1 [] [(3,vp x)] ?_
 rcases x with _ | xA
 ·rw[onPtr_none]at h
  exact T_nr 32 [0] [.bool false] hQ h
 rw[onPtr_some]at h
 refine T_n 4 [(1,vp (some xA)),(5,.bool true),(6,vp (some xA)),(7,.agg #[vi 0,vi 0,vi 1,vi 0,.bool false])]<| T_c (some 8) h ?_;clear h
 rintro m H2 ⟨f,rfl,h⟩
 refine T_pd [6,7] [(8,.bool f)]<| T_nd 2 [5,8] [(10,.bool f)] ?_
 by_cases c1:f=true
 ·rw[if_pos c1]at h
  refine N_bd 10 c1<| T_nd 2 [] [(11,vp (some xA)),(12,.agg #[vi 0,vi 1,vi 2,vi 0,.bool false])] ?_
  refine T_c (some 13) h ?_;clear h
  rintro j H3 ⟨d,rfl,h⟩
  refine T_pd [11,12] [(13,.bool d)]<| T_nd 2 [10,13] [(15,.bool d)] ?_
  by_cases c3:d=true
  ·rw[if_pos c3]at h
   refine N_bd 15 c3<| T_nd 2 [] [(16,vp (some xA)),(17,.agg #[vi 0,vi 0,vi 3,vi 0,.bool false])] ?_
   refine T_c (some 18) h ?_;clear h
   rintro k H4 ⟨a,rfl,h⟩
   refine T_pd [16,17] [(18,.bool a)]<| T_nd 2 [15,18] [(20,.bool a)] ?_
   by_cases c5:a=true
   ·rw[if_pos c5]at h
    refine N_bd 20 c5<| T_nd 1 [] [(21,vp (some xA))] ?_
    refine T_c (some 22) h ?_;clear h
    rintro l H5 ⟨b,rfl,h⟩
    refine T_pd [21] [(22,.bool b)]<| T_nd 2 [20,22] [(24,.bool b)] ?_
    by_cases c7:b=true
    ·rw[if_pos c7]at h
     refine N_bd 24 c7<| T_nd 3 [1] [(27,vp (some (xA.add 42)))] ?_
     obtain⟨i,q9,h⟩:=h
     refine T_l1 28 36 q9 [27] ?_
     obtain⟨g,rfl,h⟩:=h
     refine T_nd 2 [28] [(30,vp (some g))] ?_
     obtain⟨xB,xN,xC,q10,h⟩:=h
     exact T_l1 31 62 q10 [30]<| T_nr 4 [0] [.bool ((xN:Int)==2)] hQ h
    rw[if_neg c7]at h
    exact N_bd 24 (zZ c7)<| T_nr 11 [0] [.bool false] hQ h
   rw[if_neg c5]at h
   exact N_bd 20 (zZ c5)<| T_nr 15 [0] [.bool false] hQ h
  rw[if_neg c3]at h
  exact N_bd 15 (zZ c3)<| T_nr 20 [0] [.bool false] hQ h
 rw[if_neg c1]at h
 exact N_bd 10 (zZ c1)<| T_nr 25 [0] [.bool false] hQ h
end bM

/-! moraine/morainelaw15.EqtabFull -/
namespace cD
def K0:=Func.code Tryz.f4
def K2:=cb K0
def K4:=cb K2
def K12:=cb K4
def K14:=cb K12
def K21:=ca K14
def K22:=cb K14
def K24:=cb K21
def K25:=ca K24
def K26:=ca K25
def K42:=ca K22
def K43:=cb K22
def K44:=ca K42
def K45:=ca K44
def K54:=cb K43
def K56:=cb K54
def K57:=ca K56
end cD
def cD.pt(lB:zW)(lN lC:Nat)(l d:Int)(H:zV)(R:zk):Prop:=
 if(lN:Int)>100 then(
 bM.C H (λv H1=> ∃x:Bool,v=.bool x/\
 R (.bool x) H1))
 else
 bY.C H (λba H2=> ∃ai:zW,ba=.pointer ai/\
 eM ai (
 R (.bool false) H2) (λb=>
 ∃(ao:zv) (m27:Int->zV->Nat),ao 0 H2/\ ∀(i:Int) (H3:zV),ao i H3->
 if i< (lN:Int)then(
 ∃q:Addr,lB=some q/\
 zw i lN/\
 ∃(aa af u ah:Int) (am:Bool),aL H3 (q.add (Int.toNat i*5)) 0 [.int .i64 aa,.int .i64 af,.int .i64 u,.int .i64 ah,.bool am]/\
 aO.C (some b) aa af u ah am H3 (λa2 H4=> ∃ab:Bool,a2=.bool ab/\
 if ab=true then(
 (ao (zY (i+1)) H4/\m27 (zY (i+1)) H4<m27 i H3))
 else
 R (.bool false) H4))
 else
 ∃(aq:zV->Prop) (m46:zV->Nat),aq H3/\ ∀(H5:zV),aq H5->
 ∃al:zW,hat H5 b=some (.pointer al)/\
 cG.C al 20 20 H5 (λa4 H6=> ∃ra rb:Int,a4=.tuple #[.int .u64 ra,.int .i64 rb]/\
 if rb=0 then(
 (aq H6/\m46 H6<m46 H5))
 else
 bT.C l 40 H6 (λa5 H7=> ∃f:Int,a5=.int .i64 f/\
 bT.C d 1000 H7 (λa3 H8=> ∃j:Int,a3=.int .i64 j/\
 ∃aj:zW,hat H8 (b.add 42)=some (.pointer aj)/\
 aU.C aj f H8 (λa6 H9=> ∃m:Int,a6=.int .i64 m/\
 ∃p:zW,hat H9 b=some (.pointer p)/\
 ∃o:Int,hat H9 (b.add 1)=some (.int .u64 o)/\
 zw f 40/\
 ∃r:Int,hat H9 ((b.add 2).add (Int.toNat f*1))=some (.int .u64 r)/\
 bN.C j H9 (λa7 ap=> ∃ak:Int,a7=.int .u64 ak/\aL ap b 0 [.pointer p]/\aL ap (b.add 1) 0 [.int .u64 o]/\aL ap ((b.add 2).add (Int.toNat f*1)) 0 [.int .u64 r]/\
 gK.C p o r ak ap (λa8 an=> ∃g:Int,a8=.int .i64 g/\
 if m>=0 then(
 ∃ac:zW,hat an (b.add 42)=some (.pointer ac)/\
 bF.C ac f j an (λ_ ax=>
 if(g==0)=true then(
 bD.C (some b) ax (λay a0=> ∃y:Bool,ay=.bool y/\
 if y=true then(
 bM.C a0 (λaz a1=> ∃ag:Bool,az=.bool ag/\
 R (.bool ag) a1))
 else
 R (.bool false) a0))
 else
 R (.bool false) ax))
 else
 if(g==0)=false then(
 if g=2 then(
 bD.C (some b) an (λav au=> ∃z:Bool,av=.bool z/\
 if z=true then(
 bM.C au (λaw a9=> ∃ae:Bool,aw=.bool ae/\
 R (.bool ae) a9))
 else
 R (.bool false) au))
 else
 R (.bool false) an)
 else
 R (.bool false) an))))))))
namespace cD
set_option maxRecDepth 100000 in
theorem link{lB:zW}{lN lC:Nat}{l d:Int}{H:zV}{R:zk}(h:pt lB lN lC l d H R):C lB lN lC l d H R:=by
 refine T_en K0 97 Tryz.func4 ?_
 intro w0 Q hQ
 unfold pt zY at h
 refine T_su [(0,vs lB lN lC),(1,vi l),(2,vi d)]<| ar 0<| T_ed 1 [] []<| T_sz<| ar 1<| T_ed 3 [] [(15,.bool (decide ((lN:Int)>100)))] ?_
 by_cases c1:(lN:Int)>100
 ·rw[if_pos c1]at h
  refine aH 15 (zX c1)<| ar 2<| T_nu []<| T_c (some 16) h ?_;clear h
  rintro v H1 ⟨x,rfl,h⟩
  refine⟨[(16,.bool x)],pk,?_⟩
  exact T_nr 1 [6] [.bool x] hQ h
 rw[if_neg c1]at h
 refine aI 15 (zQ c1)<| T_kt<| ar 3<| T_ud [15] []<| T_c (some 17) h ?_;clear h
 rintro ba H2 ⟨ai,rfl,h⟩
 refine T_pd [] [(17,vp ai)]<| T_ed 1 [17] [(7,vp ai)]<| T_sz<| ar 4<| T_nd 1 [] [(18,vp ai)] ?_
 rcases ai with _ | b
 ·rw[onPtr_none]at h
  exact T_ed 1 [7,18] [(7,vp none),(19,.bool true)]<| T_tz 19<| ar 5<| T_nr 1 [6] [.bool false] hQ h
 rw[onPtr_some]at h
 refine T_ed 1 [7,18] [(7,vp (some b)),(19,.bool false)]<| T_fz 19<| T_kt<| T_sz<| ar 6<| T_ed 1 [19] [(8,vi 0)]<| T_bz 0 ?_
 obtain⟨ao,m27,i3,i4⟩:=h
 refine cu (x:=K26) (σ:=Int) (λs_=> [(0,vs lB lN lC),(1,vi l),(2,vi d),(7,vp (some b)),(8,vi s_)]) (λs_ H=>ao s_ H) (λs_ H=>m27 s_ H) (0:Int) (by kernel_rfl) i3 sk ?_
 rintro i H3 i5
 have h:=i4 i H3 i5
 refine T_su [(0,vs lB lN lC),(1,vi l),(2,vi d),(7,vp (some b)),(8,vi i)]<| T_sz<| ar 7<| T_ed 4 [] [(23,.bool (decide (i< (lN:Int))))] ?_
 by_cases c6:i< (lN:Int)
 ·rw[if_pos c6]at h
  refine aH 23 (zX c6)<| T_kt<| T_sz<| T_bz 1<| ar 9<| T_nd 3 [23] [(26,vp (some b)),(27,vs lB lN lC),(28,vi i)] ?_
  obtain⟨q,rfl,q8,h⟩:=h
  refine T_xd (some 29) 22 28 5 q lN lC .i64 i Tryz.underlying22 q8.1 q8.2 [0,27,28] [(0,vs (some q) lN lC),(29,vp (some (q.add (Int.toNat i*5))))] ?_
  obtain⟨aa,af,u,ah,am,q9,h⟩:=h
  refine T_lr 30 28 q9 [29]<| T_c (some 31) h ?_;clear h
  rintro a2 H4 ⟨ab,rfl,h⟩
  refine T_pd [26,30] [(31,.bool ab)]<| T_ed 1 [31] [(32,.bool (!ab))] ?_
  by_cases c10:ab=true
  ·rw[if_pos c10]at h
   exact aI 32 (congrArg Bool.not (c10))<| T_k<| aC<| aB<| T_rz 8<| T_ed 3 [8,32] [(8,vi (zY (i+1)))]<| aQ ((zY (i+1)):Int) sk h
  rw[if_neg c10]at h
  exact aH 32 (congrArg Bool.not (zZ c10))<| ar 10<| T_nr 1 [6] [.bool false] hQ h
 rw[if_neg c6]at h
 refine aI 23 (zQ c6)<| zj 0<| aA<| aA<| aN<| aB<| T_sz<| T_bz 2 ?_
 obtain⟨aq,m46,i12,i13⟩:=h
 refine cu (x:=K45) (σ:=Unit) (λs_=> [(1,vi l),(2,vi d),(7,vp (some b))]) (λs_ H=>aq H) (λs_ H=>m46 H) (():Unit) (by kernel_rfl) i12 sk ?_
 rintro _ H5 i14
 have h:=i13 H5 i14
 refine T_su [(1,vi l),(2,vi d),(7,vp (some b))]<| T_bz 3<| ar 11<| T_nd 3 [] [(36,vp (some b))] ?_
 obtain⟨al,q15,h⟩:=h
 refine T_l1 37 34 q15 [36]<| T_c (some 38) h ?_;clear h
 rintro a4 H6 ⟨ra,rb,rfl,h⟩
 refine T_pd [37] [(38,.tuple #[vu ra,vi rb])]<| T_ed 5 [38] [(10,vi rb)]<| ar 12<| T_ed 2 [10] [(42,.bool (rb !=0))] ?_
 by_cases c16:rb=0
 ·rw[if_pos c16]at h
  exact aI 42 (bne_eq_false_iff_eq.mpr c16)<| T_k<| aC<| aB<| aQ (s:=()) (():Unit) sk h
 rw[if_neg c16]at h
 refine aH 42 (bne_iff_ne.mpr c16)<| zj 2<| zz<| aA<| aN<| aB<| ar 13<| T_nd 1 [1,42] [(43,vi l)]<| T_c (some 44) h ?_;clear h
 rintro a5 H7 ⟨f,rfl,h⟩
 refine T_pd [43] [(44,vi f)]<| T_nd 1 [2] [(45,vi d)]<| T_c (some 46) h ?_;clear h
 rintro a3 H8 ⟨j,rfl,h⟩
 refine T_pd [45] [(46,vi j)]<| T_ed 2 [44,46] [(1,vi f),(2,vi j)]<| ar 14<| T_nd 3 [] [(49,vp (some (b.add 42)))] ?_
 obtain⟨aj,q18,h⟩:=h
 refine T_l1 50 36 q18 [49]<| T_nd 1 [] [(51,vi f)]<| T_c (some 52) h ?_;clear h
 rintro a6 H9 ⟨m,rfl,h⟩
 refine T_pd [50,51] [(52,vi m)]<| T_ed 2 [52] [(11,.bool (decide (m>=0)))]<| T_sz ?_
 obtain⟨p,q19,o,q20,q21,r,q22,h⟩:=h
 refine yz 15 (Code.ops K57) [(16,b,[vp p]),(16,(b.add 1),[vu o]),(16,((b.add 2).add (Int.toNat f*1)),[vu r])] 18 (bv 18 0) (show aE _ _ _ from⟨⟨q19,trivial⟩,⟨q20,trivial⟩,⟨q22,trivial⟩,trivial⟩)<| T_gp 0 (some 54) (vp (some b)) (bv 18 1) [(1,vi f),(2,vi j),(7,vp (some b)),(11,.bool (decide (m>=0))),(54,vp (some b))]<| aD 1 55 (vp (some b)) (bv 18 3) [54]<| aD 2 56 (vp (some b)) (bv 18 7) [55]<| T_g1 3 57 (vp p) (bv 18 15) [56] (aM 34 (vp (some b))) (yx 16 yZ)<| aD 4 58 (vp (some b)) (bv 18 31) []<| aD 5 59 (vp (some b)) (bv 18 63) [58]<| aD 6 60 (vp (some (b.add 1))) (bv 18 127) [59]<| T_g1 7 61 (vu o) (bv 18 255) [60] (aM 31 (vp (some (b.add 1)))) (yx 16 yX)<| aD 8 62 (vp (some b)) (bv 18 511) []<| aD 9 63 (vi f) (bv 18 1023) []<| aD 10 64 (vp (some b)) (bv 18 2047) [62]<| aD 11 65 (vp (some (b.add 2))) (bv 18 4095) [64]<| T_g1 12 66 (vp (some ((b.add 2).add (Int.toNat f*1)))) (bv 18 8191) [63,65] (aT 35 (vp (some (b.add 2))) (vi f)) (λ_ w _ _ _=>aR (P:=Tryz.prog) (t:=35) (elem:=31) (sz:=1) (n:=40) (a:=(b.add 2)) (k:=.i64) (i:=f) Tryz.underlying35 (λ_=>by kernel_rfl) q21.1 q21.2 w)<| T_g1 13 67 (vu r) (bv 18 16383) [66] (aM 31 (vp (some ((b.add 2).add (Int.toNat f*1))))) (yx 16 yQ)<| aD 14 68 (vi j) (bv 18 32767) []<| yj 15 (some 69) (bv 18 65535) 16 #[vi j] h ?_;clear h
 rintro a7 ap ⟨ak,rfl,f23,f24,f25,h⟩
 refine⟨[(1,vi f),(2,vi j),(7,vp (some b)),(11,.bool (decide (m>=0))),(57,vp p),(61,vu o),(67,vu r),(69,vu ak)],pk,(show aE _ _ _ from⟨f23,f24,f25,trivial⟩),?_⟩
 refine yj 16 (some 70) (bv 18 131071) 15 #[vp p,vu o,vu r,vu ak] h ?_;clear h
 rintro a8 an ⟨g,rfl,h⟩
 refine⟨[(1,vi f),(2,vi j),(7,vp (some b)),(11,.bool (decide (m>=0))),(70,vi g)],pk,(show aE _ _ _ from⟨trivial,trivial,trivial,trivial⟩),?_⟩
 refine T_g 17 (some 12) (vi g) (bv 18 262143) [(1,vi f),(2,vi j),(7,vp (some b)),(11,.bool (decide (m>=0))),(12,vi g)] (pure (.value (vi g)):Sem Next) (λ_ _ _ _ _=>rfl)<| dp [(1,vi f),(2,vi j),(7,vp (some b)),(11,.bool (decide (m>=0))),(12,vi g)] sk<| yv<| aB<| T_sz<| ar 16<| T_ne 1 [(1,vi f),(2,vi j),(7,vp (some b)),(11,.bool (decide (m>=0))),(12,vi g),(71,.bool (decide (m>=0)))] ?_
 by_cases c26:m>=0
 ·rw[if_pos c26]at h
  have b27:(decide (m>=0))=true:=zX c26
  refine fl [(1,vi f),(2,vi j),(7,vp (some b)),(11,.bool true),(12,vi g),(71,.bool true)] (by rw[b27]) ?_
  clear b27
  refine T_tz 71<| T_rz 17<| T_nd 3 [71] [(74,vp (some (b.add 42)))] ?_
  obtain⟨ac,q28,h⟩:=h
  refine T_l1 75 36 q28 [74]<| T_nd 2 [1,2] [(76,vi f),(77,vi j)]<| T_c (some 78) h ?_;clear h
  intro v_10 ax h
  refine T_pd [75,76,77] []<| T_e<| ar 18<| T_nd 5 [] [(83,.bool ((g==0)==true))] ?_
  by_cases c29:(g==0)=true
  ·rw[if_pos c29]at h
   refine N_bd 83 (zK c29)<| T_n 8 [(90,.bool true),(91,vp (some b))] ?_
   refine T_c (some 92) h ?_;clear h
   rintro ay a0 ⟨y,rfl,h⟩
   refine T_pd [91] [(92,.bool y)]<| T_n 2 [(94,.bool y)] ?_
   by_cases c31:y=true
   ·rw[if_pos c31]at h
    have b32:y=true:=c31
    refine bV [(94,.bool true)] (by rw[b32]) ?_
    clear b32
    refine T_c (some 95) h ?_;clear h
    rintro az a1 ⟨ag,rfl,h⟩
    exact T_pd [] [(95,.bool ag)]<| T_nr 2 [6] [.bool ag] hQ h
   rw[if_neg c31]at h
   have b32:y=false:=zZ c31
   refine bV [(94,.bool false)] (by rw[b32]) ?_
   clear b32
   exact T_nr 3 [6] [.bool false] hQ h
  rw[if_neg c29]at h
  exact N_bd 83 (zJ c29)<| T_nr 14 [6] [.bool false] hQ h
 rw[if_neg c26]at h
 have b27:(decide (m>=0))=false:=zQ c26
 refine fl [(1,vi f),(2,vi j),(7,vp (some b)),(11,.bool false),(12,vi g),(71,.bool false)] (by rw[b27]) ?_
 clear b27
 refine T_fz 71<| T_kt<| ar 18<| T_nd 5 [1,2,71] [(83,.bool ((g==0)==false))] ?_
 by_cases c33:(g==0)=false
 ·rw[if_pos c33]at h
  refine N_bd 83 (zK c33)<| T_nd 7 [11,12,83] [(90,.bool (g==2))] ?_
  by_cases c35:g=2
  ·rw[if_pos c35]at h
   refine N_bd 90 (zK c35)<| T_nd 1 [7] [(91,vp (some b))] ?_
   refine T_c (some 92) h ?_;clear h
   rintro av au ⟨z,rfl,h⟩
   refine T_pd [91] [(92,.bool z)]<| T_n 2 [(94,.bool z)] ?_
   by_cases c37:z=true
   ·rw[if_pos c37]at h
    have b38:z=true:=c37
    refine bV [(94,.bool true)] (by rw[b38]) ?_
    clear b38
    refine T_c (some 95) h ?_;clear h
    rintro aw a9 ⟨ae,rfl,h⟩
    exact T_pd [] [(95,.bool ae)]<| T_nr 2 [6] [.bool ae] hQ h
   rw[if_neg c37]at h
   have b38:z=false:=zZ c37
   refine bV [(94,.bool false)] (by rw[b38]) ?_
   clear b38
   exact T_nr 3 [6] [.bool false] hQ h
  rw[if_neg c35]at h
  exact N_bd 90 (zJ c35)<| T_nr 7 [6] [.bool false] hQ h
 rw[if_neg c33]at h
 exact N_bd 83 (zJ c33)<| T_nr 14 [6] [.bool false] hQ h
end cD

