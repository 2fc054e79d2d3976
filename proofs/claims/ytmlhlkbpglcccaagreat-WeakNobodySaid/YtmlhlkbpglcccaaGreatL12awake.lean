/- Printed: what each function asks, and that it is sound. -/
import Derived.Test.YtmlhlkbpglcccaaGreatFnsC
set_option linter.unusedSimpArgs false
set_option linter.unusedVariables false
set_option maxHeartbeats 1000000
noncomputable section
namespace Go.Proofs.YtmlhlkbpglcccaaGreat
open Go
/-! moraine/morainelaw12.awake -/
namespace bM
def K0:=Func.code Tryz.f8
end bM
def bM.pt(H:zV)(R:zj):Prop:=
 fW.C 40 H (λv H1=> ∃(ra:zW) (rb:Int),v=.tuple #[.pointer ra,.int .i64 rb]/\
 if rb=0 then(
 ei ra (
 R (.bool false) H1) (λa=>
 ∀(b:Nat) (H2:zV),b=H1.size->H2=H1.push (.cells #[.int .u64 20,.int .u64 20] 28)->
 dz.C (some a) 10 0 (some (ad b)) 2 2 H2 (λau H3=> ∃n u:Int,au=.tuple #[.int .u64 n,.int .i64 u]/\
 dA.C (some a) 8 20 H3 (λai H4=> ∃m t:Int,ai=.tuple #[.int .u64 m,.int .i64 t]/\
 dD.C (some a) m 20 H4 (λam H5=> ∃p y:Int,am=.tuple #[.int .u64 p,.int .i64 y]/\
 ew.C (some a) 0 0 1 H5 (λap H6=> ∃(d:zW) (q:Int),ap=.tuple #[.pointer d,.int .i64 q]/\
 if q=0 then(
 aU.C d n H6 (λae H7=> ∃x:Int,ae=.int .u64 x/\
 aU.C d p H7 (λal H8=> ∃o:Int,al=.int .u64 o/\
 bW.C d H8 (λ_ H9=>
 ∀(s:Nat) (H10:zV),s=H9.size->H10=H9.push (.cells #[.int .u64 m,.int .u64 x] 36)->
 df.C d (some (ad s)) 1 1 H10 (λak aq=> ∃(xB:zW) (xN xC:Nat),ak=.slice xB xN xC/\
 dg.C d aq (λ_ af=>
 cM.C d af (λ_ ah=>
 dF.C (some a) x 10 0 ah (λab an=> ∃r l:Int,ab=.tuple #[.int .u64 r,.int .i64 l]/\
 dm.C (some a) r an (λz ag=> ∃f j:Int,z=.tuple #[.int .u64 f,.int .i64 j]/\
 dm.C (some a) o ag (λaa ao=> ∃e k:Int,aa=.tuple #[.int .u64 e,.int .i64 k]/\
 dm.C (some a) e ao (λac aj=> ∃g i:Int,ac=.tuple #[.int .u64 g,.int .i64 i]/\
 R (.bool ((((((((xN:Int)==0) && (l==0)) && (j==0)) && (k==0)) && (f==e)) && (g==8)) && (i==0))) aj)))))))))))
 else
 R (.bool false) H6))))))
 else
 R (.bool false) H1)
namespace bM
set_option maxRecDepth 100000 in
theorem link{H:zV}{R:zj}(h:pt H R):C H R:=by
 refine T_en K0 124 Tryz.func8 ?_
 intro w0 Q hQ
 unfold pt at h
 refine T_su []<| ar 0<| T_ne 1 []<| ar 1<| T_c (some 21) h ?_;clear h
 rintro v H1 ⟨ra,rb,rfl,h⟩
 refine⟨[(21,.tuple #[vp ra,vi rb])],pk,?_⟩
 refine T_ne 5 [(1,vp ra),(2,vi rb)]<| T_sz<| ar 2<| T_nd 3 [2] [(26,.bool (rb !=0))] ?_
 by_cases c1:rb=0
 ·rw[if_pos c1]at h
  refine N_bd 26 (bne_eq_false_iff_eq.mpr c1)<| T_nd 1 [] [(27,vp ra)] ?_
  rcases ra with _ | a
  ·rw[onPtr_none]at h
   exact T_ne 2 [(1,vp none),(29,.bool true)]<| T_tz 29<| ar 3<| T_nr 1 [0] [.bool false] hQ h
  rw[onPtr_some]at h
  refine T_ne 2 [(1,vp (some a)),(29,.bool false)]<| T_fz 29<| T_kt<| ar 4<| T_nd 1 [29] [(31,vp (some a))]<| T_nw (some 32) (λb=>vs (pa b) 2 2) (.cells #[vu 20,vu 20] 28) ?_
  intro b H2 e3 e4
  replace h:=h b H2 e3 e4
  refine T_pd [] [(32,vs (pa b) 2 2)]<| T_c (some 33) h ?_;clear h
  rintro au H3 ⟨n,u,rfl,h⟩
  refine T_pd [31,32] [(33,.tuple #[vu n,vi u])]<| T_ed 5 [33] [(3,vu n)]<| ar 5<| T_nd 1 [] [(37,vp (some a))]<| T_c (some 38) h ?_;clear h
  rintro ai H4 ⟨m,t,rfl,h⟩
  refine T_pd [37] [(38,.tuple #[vu m,vi t])]<| T_ed 5 [38] [(5,vu m)]<| ar 6<| T_nd 2 [] [(42,vp (some a)),(43,vu m)]<| T_c (some 44) h ?_;clear h
  rintro am H5 ⟨p,y,rfl,h⟩
  refine T_pd [42,43] [(44,.tuple #[vu p,vi y])]<| T_ed 5 [44] [(7,vu p)]<| ar 7<| T_nd 1 [] [(48,vp (some a))]<| T_c (some 49) h ?_;clear h
  rintro ap H6 ⟨d,q,rfl,h⟩
  refine T_pd [48] [(49,.tuple #[vp d,vi q])]<| T_ed 5 [49] [(9,vp d),(10,vi q)]<| T_sz<| ar 8<| T_ed 2 [10] [(53,.bool (q !=0))] ?_
  by_cases c5:q=0
  ·rw[if_pos c5]at h
   refine aJ 53 (bne_eq_false_iff_eq.mpr c5)<| T_kt<| ar 10<| T_nd 2 [3,53] [(54,vp d),(55,vu n)]<| T_c (some 56) h ?_;clear h
   rintro ae H7 ⟨x,rfl,h⟩
   refine T_pd [54,55] [(56,vu x)]<| T_nd 2 [7] [(57,vp d),(58,vu p)]<| T_c (some 59) h ?_;clear h
   rintro al H8 ⟨o,rfl,h⟩
   refine T_pd [57,58] [(59,vu o)]<| T_ed 2 [56,59] [(3,vu x),(7,vu o)]<| ar 11<| T_nd 1 [] [(60,vp d)]<| T_c (some 61) h ?_;clear h
   intro v_8 H9 h
   refine T_pd [60] []<| T_e<| ar 12<| T_nd 4 [5] [(62,vp d),(65,.agg #[vu m,vu x])]<| T_nw (some 66) (λb=>vs (pa b) 1 1) (.cells #[vu m,vu x] 36) ?_
   intro s H10 e7 e8
   replace h:=h s H10 e7 e8
   refine T_pd [65] [(66,vs (pa s) 1 1)]<| T_c (some 67) h ?_;clear h
   rintro ak aq ⟨xB,xN,xC,rfl,h⟩
   refine T_pd [62,66] [(67,vs xB xN xC)]<| T_ed 1 [67] [(11,vs xB xN xC)]<| ar 13<| T_nd 1 [] [(68,vp d)]<| T_c (some 69) h ?_;clear h
   intro v_10 af h
   refine T_pd [68] []<| T_e<| ar 14<| T_nd 1 [9] [(70,vp d)]<| T_c (some 71) h ?_;clear h
   intro v_11 ah h
   refine T_pd [70] []<| T_e<| ar 15<| T_nd 2 [3] [(73,vp (some a)),(74,vu x)]<| T_c (some 75) h ?_;clear h
   rintro ab an ⟨r,l,rfl,h⟩
   refine T_pd [73,74] [(75,.tuple #[vu r,vi l])]<| T_ed 5 [75] [(12,vu r),(13,vi l)]<| ar 16<| T_nd 2 [12] [(79,vp (some a)),(80,vu r)]<| T_c (some 81) h ?_;clear h
   rintro z ag ⟨f,j,rfl,h⟩
   refine T_pd [79,80] [(81,.tuple #[vu f,vi j])]<| T_ed 5 [81] [(14,vu f),(15,vi j)]<| ar 17<| T_nd 2 [7] [(85,vp (some a)),(86,vu o)]<| T_c (some 87) h ?_;clear h
   rintro aa ao ⟨e,k,rfl,h⟩
   refine T_pd [85,86] [(87,.tuple #[vu e,vi k])]<| T_ed 5 [87] [(16,vu e),(17,vi k)]<| ar 18<| T_nd 2 [1] [(91,vp (some a)),(92,vu e)]<| T_c (some 93) h ?_;clear h
   rintro ac aj ⟨g,i,rfl,h⟩
   refine T_pd [91,92] [(93,.tuple #[vu g,vi i])]<| T_ed 5 [93] [(18,vu g),(19,vi i)]<| ar 19 ?_
   refine fm [(0,.bool ((((((((xN:Int)==0) && (l==0)) && (j==0)) && (k==0)) && (f==e)) && (g==8)) && (i==0)))] ?_ ?_
   ·exact aE<| eW [0] [.bool ((((((((xN:Int)==0) && (l==0)) && (j==0)) && (k==0)) && (f==e)) && (g==8)) && (i==0))] hQ h
   intro hk
   refine T_n 4 [(13,vi l),(14,vu f),(15,vi j),(16,vu e),(17,vi k),(18,vu g),(19,vi i),(99,.bool ((xN:Int)==0))] ?_
   by_cases c9:(xN:Int)=0
   ·have b10:((xN:Int)==0)=true:=zK c9
    refine cO [(13,vi l),(14,vu f),(15,vi j),(16,vu e),(17,vi k),(18,vu g),(19,vi i),(99,.bool true)] (by rw[b10]) ?_
    refine T_nd 4 [13,99] [(103,.bool (l==0))] ?_
    by_cases c11:l=0
    ·have b12:(l==0)=true:=zK c11
     refine N_bd 103 b12<| T_nd 4 [15,103] [(107,.bool (j==0))] ?_
     by_cases c13:j=0
     ·have b14:(j==0)=true:=zK c13
      refine N_bd 107 b14<| T_nd 4 [17,107] [(111,.bool (k==0))] ?_
      by_cases c15:k=0
      ·have b16:(k==0)=true:=zK c15
       refine N_bd 111 b16<| T_nd 5 [14,16,111] [(116,.bool (f==e))] ?_
       by_cases c17:f=e
       ·have b18:(f==e)=true:=zK c17
        refine N_bd 116 b18<| T_n 4 [(19,vi i),(120,.bool (g==8))] ?_
        by_cases c19:g=8
        ·have b20:(g==8)=true:=zK c19
         refine cO [(19,vi i),(120,.bool true)] (by rw[b20]) ?_
         refine T_n 4 [(0,.bool (i==0))]<| zq<| eD [(0,.bool ((((((((xN:Int)==0) && (l==0)) && (j==0)) && (k==0)) && (f==e)) && (g==8)) && (i==0)))] (by simp only[b10,b12,b14,b16,b18,b20,BL]) ?_
         exact hk
        have b20:(g==8)=false:=zJ c19
        refine cO [(19,vi i),(120,.bool false)] (by rw[b20]) ?_
        refine T_n 4 [(0,.bool false)]<| zq<| eD [(0,.bool ((((((((xN:Int)==0) && (l==0)) && (j==0)) && (k==0)) && (f==e)) && (g==8)) && (i==0)))] (by simp only[b10,b12,b14,b16,b18,b20,BL]) ?_
        exact hk
       have b18:(f==e)=false:=zJ c17
       refine N_bd 116 b18<| T_n 8 [(0,.bool false)] ?_
       refine zq<| eD [(0,.bool ((((((((xN:Int)==0) && (l==0)) && (j==0)) && (k==0)) && (f==e)) && (g==8)) && (i==0)))] (by simp only[b10,b12,b14,b16,b18,BL]) ?_
       exact hk
      have b16:(k==0)=false:=zJ c15
      refine N_bd 111 b16<| T_n 13 [(0,.bool false)] ?_
      refine zq<| eD [(0,.bool ((((((((xN:Int)==0) && (l==0)) && (j==0)) && (k==0)) && (f==e)) && (g==8)) && (i==0)))] (by simp only[b10,b12,b14,b16,BL]) ?_
      exact hk
     have b14:(j==0)=false:=zJ c13
     refine N_bd 107 b14<| T_n 17 [(0,.bool false)] ?_
     refine zq<| eD [(0,.bool ((((((((xN:Int)==0) && (l==0)) && (j==0)) && (k==0)) && (f==e)) && (g==8)) && (i==0)))] (by simp only[b10,b12,b14,BL]) ?_
     exact hk
    have b12:(l==0)=false:=zJ c11
    refine N_bd 103 b12<| T_n 21 [(0,.bool false)] ?_
    refine zq<| eD [(0,.bool ((((((((xN:Int)==0) && (l==0)) && (j==0)) && (k==0)) && (f==e)) && (g==8)) && (i==0)))] (by simp only[b10,b12,BL]) ?_
    exact hk
   have b10:((xN:Int)==0)=false:=zJ c9
   refine cO [(13,vi l),(14,vu f),(15,vi j),(16,vu e),(17,vi k),(18,vu g),(19,vi i),(99,.bool false)] (by rw[b10]) ?_
   refine T_n 25 [(0,.bool false)]<| zq<| eD [(0,.bool ((((((((xN:Int)==0) && (l==0)) && (j==0)) && (k==0)) && (f==e)) && (g==8)) && (i==0)))] (by simp only[b10,BL]) ?_
   exact hk
  rw[if_neg c5]at h
  exact aI 53 (bne_iff_ne.mpr c5)<| ar 9<| T_nr 1 [0] [.bool false] hQ h
 rw[if_neg c1]at h
 exact N_bd 26 (bne_iff_ne.mpr c1)<| T_ed 3 [26] [(29,.bool true)]<| T_tz 29<| ar 3<| T_nr 1 [0] [.bool false] hQ h
end bM

