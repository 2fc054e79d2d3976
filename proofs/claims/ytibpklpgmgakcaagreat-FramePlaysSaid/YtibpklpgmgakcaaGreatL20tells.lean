/- Printed: what each function asks, and that it is sound. -/
import Derived.Test.YtibpklpgmgakcaaGreatFnsC
set_option linter.unusedSimpArgs false
set_option linter.unusedVariables false
set_option maxHeartbeats 1000000
noncomputable section
namespace Go.Proofs.YtibpklpgmgakcaaGreat
open Go
/-! moraine/morainelaw20.tells -/
namespace morainelaw20_tells
def K0:=Func.code Tryz.f11
end morainelaw20_tells
def morainelaw20_tells.pt(hv m:Option Addr)(wv i:Int)(H:Array Obj)(R:Value->Array Obj->Prop):Prop:=
 frame_Kind.C hv wv H (λv H1=> ∃ra rb:Int,v=.tuple #[.int .i64 ra,.int .i64 rb]/\
 moraineref20_Kind.C m wv H1 (λz H2=> ∃n j:Int,z=.tuple #[.int .i64 n,.int .i64 j]/\
 frame_Next.C hv wv H2 (λt H3=> ∃f a:Int,t=.tuple #[.int .u64 f,.int .i64 a]/\
 moraineref20_Next.C m wv H3 (λaa H4=> ∃l d:Int,aa=.tuple #[.int .u64 l,.int .i64 d]/\
 frame_Field.C hv wv i H4 (λaf H5=> ∃k b:Int,af=.tuple #[.int .u64 k,.int .i64 b]/\
 moraineref20_Field.C m wv i H5 (λab H6=> ∃o e:Int,ab=.tuple #[.int .u64 o,.int .i64 e]/\
 if ra=n then(
 if rb=j then(
 if f=l then(
 if a=d then(
 if k=o then(
 if b=e then(
 frame_Fields.C hv wv H6 (λae H7=> ∃x:Int,ae=.int .i64 x/\
 moraineref20_Fields.C m wv H7 (λy H8=> ∃p:Int,y=.int .i64 p/\
 if x=p then(
 frame_Count.C hv wv H8 (λu H9=> ∃q:Int,u=.int .i64 q/\
 moraineref20_Count.C m wv H9 (λs ac=> ∃r:Int,s=.int .i64 r/\
 R (.bool (q==r)) ac)))
 else
 R (.bool false) H8)))
 else
 R (.bool false) H6)
 else
 R (.bool false) H6)
 else
 R (.bool false) H6)
 else
 R (.bool false) H6)
 else
 R (.bool false) H6)
 else
 R (.bool false) H6))))))
namespace morainelaw20_tells
set_option maxRecDepth 100000 in
theorem link{hv m:Option Addr}{wv i:Int}{H:Array Obj}{R:Value->Array Obj->Prop}(h:pt hv m wv i H R):C hv m wv i H R:=by
 refine T_en K0 105 Tryz.func11 ?_
 intro w0 Q hQ
 unfold pt at h
 refine T_su [(0,vp hv),(1,vp m),(2,vu wv),(3,vi i)]<| T_srz 0<| T_ed 1 [] []<| T_srz 1<| T_nd 2 [] [(22,vp hv),(23,vu wv)] ?_
 refine T_c (some 24) h ?_;clear h
 rintro v H1 ⟨ra,rb,rfl,h⟩
 refine T_pd [22,23] [(24,.tuple #[vi ra,vi rb])]<| T_ed 5 [24] [(9,vi ra),(10,vi rb)]<| T_srz 2<| T_nd 2 [] [(28,vp m),(29,vu wv)] ?_
 refine T_c (some 30) h ?_;clear h
 rintro z H2 ⟨n,j,rfl,h⟩
 refine T_pd [28,29] [(30,.tuple #[vi n,vi j])]<| T_ed 5 [30] [(11,vi n),(12,vi j)]<| T_srz 3<| T_nd 2 [] [(34,vp hv),(35,vu wv)] ?_
 refine T_c (some 36) h ?_;clear h
 rintro t H3 ⟨f,a,rfl,h⟩
 refine T_pd [34,35] [(36,.tuple #[vu f,vi a])]<| T_ed 5 [36] [(13,vu f),(14,vi a)]<| T_srz 4<| T_nd 2 [] [(40,vp m),(41,vu wv)] ?_
 refine T_c (some 42) h ?_;clear h
 rintro aa H4 ⟨l,d,rfl,h⟩
 refine T_pd [40,41] [(42,.tuple #[vu l,vi d])]<| T_ed 5 [42] [(15,vu l),(16,vi d)]<| T_srz 5<| T_nd 3 [] [(46,vp hv),(47,vu wv),(48,vi i)] ?_
 refine T_c (some 49) h ?_;clear h
 rintro af H5 ⟨k,b,rfl,h⟩
 refine T_pd [46,47,48] [(49,.tuple #[vu k,vi b])]<| T_ed 5 [49] [(17,vu k),(18,vi b)]<| T_srz 6<| T_nd 3 [3] [(53,vp m),(54,vu wv),(55,vi i)] ?_
 refine T_c (some 56) h ?_;clear h
 rintro ab H6 ⟨o,e,rfl,h⟩
 refine T_pd [53,54,55] [(56,.tuple #[vu o,vi e])]<| T_ed 5 [56] [(19,vu o),(20,vi e)]<| T_srz 7<| T_nd 4 [9,11] [(62,.bool (ra==n))] ?_
 by_cases c1:ra=n
 ·rw[if_pos c1]at h
  refine N_bd 62 (beq_iff_eq.mpr c1)<| T_nd 5 [10,12,62] [(67,.bool (rb==j))] ?_
  by_cases c3:rb=j
  ·rw[if_pos c3]at h
   refine N_bd 67 (beq_iff_eq.mpr c3)<| T_nd 5 [13,15,67] [(72,.bool (f==l))] ?_
   by_cases c5:f=l
   ·rw[if_pos c5]at h
    refine N_bd 72 (beq_iff_eq.mpr c5)<| T_nd 5 [14,16,72] [(77,.bool (a==d))] ?_
    by_cases c7:a=d
    ·rw[if_pos c7]at h
     refine N_bd 77 (beq_iff_eq.mpr c7)<| T_nd 5 [17,19,77] [(82,.bool (k==o))] ?_
     by_cases c9:k=o
     ·rw[if_pos c9]at h
      refine N_bd 82 (beq_iff_eq.mpr c9)<| T_nd 5 [18,20,82] [(87,.bool (b==e))] ?_
      by_cases c11:b=e
      ·rw[if_pos c11]at h
       refine N_bd 87 (beq_iff_eq.mpr c11)<| T_nd 2 [] [(88,vp hv),(89,vu wv)] ?_
       refine T_c (some 90) h ?_;clear h
       rintro ae H7 ⟨x,rfl,h⟩
       refine T_pd [88,89] [(90,vi x)]<| T_nd 2 [] [(91,vp m),(92,vu wv)] ?_
       refine T_c (some 93) h ?_;clear h
       rintro y H8 ⟨p,rfl,h⟩
       refine T_pd [91,92] [(93,vi p)]<| T_nd 3 [87,90,93] [(96,.bool (x==p))] ?_
       by_cases c13:x=p
       ·rw[if_pos c13]at h
        refine N_bd 96 (beq_iff_eq.mpr c13)<| T_nd 2 [0] [(97,vp hv),(98,vu wv)] ?_
        refine T_c (some 99) h ?_;clear h
        rintro u H9 ⟨q,rfl,h⟩
        refine T_pd [97,98] [(99,vi q)]<| T_nd 2 [1,2] [(100,vp m),(101,vu wv)] ?_
        refine T_c (some 102) h ?_;clear h
        rintro s ac ⟨r,rfl,h⟩
        exact T_pd [100,101] [(102,vi r)]<| T_nr 3 [8] [.bool (q==r)] hQ h
       rw[if_neg c13]at h
       exact N_bd 96 (beq_eq_false_iff_ne.mpr c13)<| T_nr 9 [8] [.bool false] hQ h
      rw[if_neg c11]at h
      exact N_bd 87 (beq_eq_false_iff_ne.mpr c11)<| T_nr 18 [8] [.bool false] hQ h
     rw[if_neg c9]at h
     exact N_bd 82 (beq_eq_false_iff_ne.mpr c9)<| T_nr 23 [8] [.bool false] hQ h
    rw[if_neg c7]at h
    exact N_bd 77 (beq_eq_false_iff_ne.mpr c7)<| T_nr 28 [8] [.bool false] hQ h
   rw[if_neg c5]at h
   exact N_bd 72 (beq_eq_false_iff_ne.mpr c5)<| T_nr 33 [8] [.bool false] hQ h
  rw[if_neg c3]at h
  exact N_bd 67 (beq_eq_false_iff_ne.mpr c3)<| T_nr 38 [8] [.bool false] hQ h
 rw[if_neg c1]at h
 exact N_bd 62 (beq_eq_false_iff_ne.mpr c1)<| T_nr 43 [8] [.bool false] hQ h
end morainelaw20_tells

end Go.Proofs.YtibpklpgmgakcaaGreat
