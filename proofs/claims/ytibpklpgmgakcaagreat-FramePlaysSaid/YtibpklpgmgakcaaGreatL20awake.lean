/- Printed: what each function asks, and that it is sound. -/
import Derived.Test.YtibpklpgmgakcaaGreatFnsC
set_option linter.unusedSimpArgs false
set_option linter.unusedVariables false
set_option maxHeartbeats 1000000
noncomputable section
namespace Go.Proofs.YtibpklpgmgakcaaGreat
open Go
/-! moraine/morainelaw20.awake -/
namespace morainelaw20_awake
def K0:=Func.code Tryz.f7
end morainelaw20_awake
def morainelaw20_awake.pt(H:Array Obj)(R:Value->Array Obj->Prop):Prop:=
 obj_New.C 8 H (λv H1=> ∃(ra:Option Addr) (rb:Int),v=.tuple #[.pointer ra,.int .i64 rb]/\
 if rb=0 then(
 onPtr ra (
 R (.bool false) H1) (λa=>
 ∀(b:Nat) (H2:Array Obj),b=H1.size->H2=H1.push (.cells #[.int .u64 8,.int .u64 16] 35)->
 frame_Extend.C (some a) 20 (some (ad b)) 2 2 H2 (λak H3=> ∃d ab:Int,ak=.tuple #[.int .u64 d,.int .i64 ab]/\
 ∀(u:Nat) (H4:Array Obj),u=H3.size->H4=H3.push (.cells #[.int .u64 24] 35)->
 frame_Extend.C (some a) d (some (ad u)) 1 1 H4 (λag H5=> ∃r o:Int,ag=.tuple #[.int .u64 r,.int .i64 o]/\
 frame_Get.C (some a) r 1 1 H5 (λal H6=> ∃n j:Int,al=.tuple #[.int .u64 n,.int .i64 j]/\
 frame_Get.C (some a) r 2 0 H6 (λau H7=> ∃ac k:Int,au=.tuple #[.int .u64 ac,.int .i64 k]/\
 ∀(y:Nat) (H8:Array Obj),y=H7.size->H8=H7.push (.cells #[.int .u64 8] 35)->
 frame_Push.C (some a) 3 20 (some (ad y)) 1 1 H8 (λam H9=> ∃f aa:Int,am=.tuple #[.int .u64 f,.int .i64 aa]/\
 frame_Push.C (some a) 4 f none 0 0 H9 (λap an=> ∃s q:Int,ap=.tuple #[.int .u64 s,.int .i64 q]/\
 frame_Kind.C (some a) s an (λaj ah=> ∃p l:Int,aj=.tuple #[.int .i64 p,.int .i64 l]/\
 frame_Next.C (some a) s ah (λai aq=> ∃m i:Int,ai=.tuple #[.int .u64 m,.int .i64 i]/\
 frame_Push.C (some a) 0 d none 0 0 aq (λaf t=> ∃z e:Int,af=.tuple #[.int .u64 z,.int .i64 e]/\
 if o=0 then(
 if n=16 then(
 if j=0 then(
 if k=3 then(
 if q=0 then(
 if p=4 then(
 if l=0 then(
 if m=f then(
 if i=0 then(
 if e=3 then(
 frame_Count.C (some a) d t (λae ao=> ∃x:Int,ae=.int .i64 x/\
 R (.bool (x==2)) ao))
 else
 R (.bool false) t)
 else
 R (.bool false) t)
 else
 R (.bool false) t)
 else
 R (.bool false) t)
 else
 R (.bool false) t)
 else
 R (.bool false) t)
 else
 R (.bool false) t)
 else
 R (.bool false) t)
 else
 R (.bool false) t)
 else
 R (.bool false) t)))))))))))
 else
 R (.bool false) H1)
namespace morainelaw20_awake
set_option maxRecDepth 100000 in
theorem link{H:Array Obj}{R:Value->Array Obj->Prop}(h:pt H R):C H R:=by
 refine T_en K0 131 Tryz.func7 ?_
 intro w0 Q hQ
 unfold pt at h
 refine T_su []<| T_srz 0<| T_ne 1 []<| T_srz 1 ?_
 refine T_c (some 22) h ?_;clear h
 rintro v H1 ⟨ra,rb,rfl,h⟩
 refine⟨[(22,.tuple #[vp ra,vi rb])],pk,?_⟩
 refine T_ne 5 [(1,vp ra),(2,vi rb)]<| T_sz<| T_srz 2<| T_nd 3 [2] [(27,.bool (rb !=0))] ?_
 by_cases c1:rb=0
 ·rw[if_pos c1]at h
  refine N_bd 27 (bne_eq_false_iff_eq.mpr c1)<| T_nd 1 [] [(28,vp ra)] ?_
  rcases ra with _ | a
  ·rw[onPtr_none]at h
   exact T_ne 2 [(1,vp none),(30,.bool true)]<| T_tz 30<| T_srz 3<| T_nr 1 [0] [.bool false] hQ h
  rw[onPtr_some]at h
  refine T_ne 2 [(1,vp (some a)),(30,.bool false)]<| T_fz 30<| T_kt<| T_srz 4<| T_nd 1 [30] [(32,vp (some a))]<| T_nw (some 33) (λb=>vs (pa b) 2 2) (.cells #[vu 8,vu 16] 35) ?_
  intro b H2 e3 e4
  replace h:=h b H2 e3 e4
  refine T_pd [] [(33,vs (pa b) 2 2)] ?_
  refine T_c (some 34) h ?_;clear h
  rintro ak H3 ⟨d,ab,rfl,h⟩
  refine T_pd [32,33] [(34,.tuple #[vu d,vi ab])]<| T_ed 5 [34] [(3,vu d)]<| T_srz 5<| T_nd 2 [] [(38,vp (some a)),(39,vu d)]<| T_nw (some 40) (λb=>vs (pa b) 1 1) (.cells #[vu 24] 35) ?_
  intro u H4 e5 e6
  replace h:=h u H4 e5 e6
  refine T_pd [] [(40,vs (pa u) 1 1)] ?_
  refine T_c (some 41) h ?_;clear h
  rintro ag H5 ⟨r,o,rfl,h⟩
  refine T_pd [38,39,40] [(41,.tuple #[vu r,vi o])]<| T_ed 5 [41] [(5,vu r),(6,vi o)]<| T_srz 6<| T_nd 2 [] [(45,vp (some a)),(46,vu r)] ?_
  refine T_c (some 47) h ?_;clear h
  rintro al H6 ⟨n,j,rfl,h⟩
  refine T_pd [45,46] [(47,.tuple #[vu n,vi j])]<| T_ed 5 [47] [(7,vu n),(8,vi j)]<| T_srz 7<| T_nd 2 [5] [(51,vp (some a)),(52,vu r)] ?_
  refine T_c (some 53) h ?_;clear h
  rintro au H7 ⟨ac,k,rfl,h⟩
  refine T_pd [51,52] [(53,.tuple #[vu ac,vi k])]<| T_ed 5 [53] [(10,vi k)]<| T_srz 8<| T_nd 1 [] [(57,vp (some a))]<| T_nw (some 58) (λb=>vs (pa b) 1 1) (.cells #[vu 8] 35) ?_
  intro y H8 e7 e8
  replace h:=h y H8 e7 e8
  refine T_pd [] [(58,vs (pa y) 1 1)] ?_
  refine T_c (some 59) h ?_;clear h
  rintro am H9 ⟨f,aa,rfl,h⟩
  refine T_pd [57,58] [(59,.tuple #[vu f,vi aa])]<| T_ed 5 [59] [(11,vu f)]<| T_srz 9<| T_nd 2 [] [(63,vp (some a)),(64,vu f)] ?_
  refine T_c (some 65) h ?_;clear h
  rintro ap an ⟨s,q,rfl,h⟩
  refine T_pd [63,64] [(65,.tuple #[vu s,vi q])]<| T_ed 5 [65] [(13,vu s),(14,vi q)]<| T_srz 10<| T_nd 2 [] [(69,vp (some a)),(70,vu s)] ?_
  refine T_c (some 71) h ?_;clear h
  rintro aj ah ⟨p,l,rfl,h⟩
  refine T_pd [69,70] [(71,.tuple #[vi p,vi l])]<| T_ed 5 [71] [(15,vi p),(16,vi l)]<| T_srz 11<| T_nd 2 [13] [(75,vp (some a)),(76,vu s)] ?_
  refine T_c (some 77) h ?_;clear h
  rintro ai aq ⟨m,i,rfl,h⟩
  refine T_pd [75,76] [(77,.tuple #[vu m,vi i])]<| T_ed 5 [77] [(17,vu m),(18,vi i)]<| T_srz 12<| T_nd 2 [] [(81,vp (some a)),(82,vu d)] ?_
  refine T_c (some 83) h ?_;clear h
  rintro af t ⟨z,e,rfl,h⟩
  refine T_pd [81,82] [(83,.tuple #[vu z,vi e])]<| T_ed 5 [83] [(20,vi e)]<| T_srz 13<| T_nd 3 [6] [(88,.bool (o==0))] ?_
  by_cases c9:o=0
  ·rw[if_pos c9]at h
   refine N_bd 88 (beq_iff_eq.mpr c9)<| T_nd 4 [7,88] [(92,.bool (n==16))] ?_
   by_cases c11:n=16
   ·rw[if_pos c11]at h
    refine N_bd 92 (beq_iff_eq.mpr c11)<| T_nd 4 [8,92] [(96,.bool (j==0))] ?_
    by_cases c13:j=0
    ·rw[if_pos c13]at h
     refine N_bd 96 (beq_iff_eq.mpr c13)<| T_nd 4 [10,96] [(100,.bool (k==3))] ?_
     by_cases c15:k=3
     ·rw[if_pos c15]at h
      refine N_bd 100 (beq_iff_eq.mpr c15)<| T_nd 4 [14,100] [(104,.bool (q==0))] ?_
      by_cases c17:q=0
      ·rw[if_pos c17]at h
       refine N_bd 104 (beq_iff_eq.mpr c17)<| T_nd 4 [15,104] [(108,.bool (p==4))] ?_
       by_cases c19:p=4
       ·rw[if_pos c19]at h
        refine N_bd 108 (beq_iff_eq.mpr c19)<| T_nd 4 [16,108] [(112,.bool (l==0))] ?_
        by_cases c21:l=0
        ·rw[if_pos c21]at h
         refine N_bd 112 (beq_iff_eq.mpr c21)<| T_nd 5 [11,17,112] [(117,.bool (m==f))] ?_
         by_cases c23:m=f
         ·rw[if_pos c23]at h
          refine N_bd 117 (beq_iff_eq.mpr c23)<| T_nd 4 [18,117] [(121,.bool (i==0))] ?_
          by_cases c25:i=0
          ·rw[if_pos c25]at h
           refine N_bd 121 (beq_iff_eq.mpr c25)<| T_nd 4 [20,121] [(125,.bool (e==3))] ?_
           by_cases c27:e=3
           ·rw[if_pos c27]at h
            refine N_bd 125 (beq_iff_eq.mpr c27)<| T_nd 2 [1,3] [(126,vp (some a)),(127,vu d)] ?_
            refine T_c (some 128) h ?_;clear h
            rintro ae ao ⟨x,rfl,h⟩
            exact T_pd [126,127] [(128,vi x)]<| T_nr 3 [0] [.bool (x==2)] hQ h
           rw[if_neg c27]at h
           exact N_bd 125 (beq_eq_false_iff_ne.mpr c27)<| T_nr 6 [0] [.bool false] hQ h
          rw[if_neg c25]at h
          exact N_bd 121 (beq_eq_false_iff_ne.mpr c25)<| T_nr 10 [0] [.bool false] hQ h
         rw[if_neg c23]at h
         exact N_bd 117 (beq_eq_false_iff_ne.mpr c23)<| T_nr 14 [0] [.bool false] hQ h
        rw[if_neg c21]at h
        exact N_bd 112 (beq_eq_false_iff_ne.mpr c21)<| T_nr 19 [0] [.bool false] hQ h
       rw[if_neg c19]at h
       exact N_bd 108 (beq_eq_false_iff_ne.mpr c19)<| T_nr 23 [0] [.bool false] hQ h
      rw[if_neg c17]at h
      exact N_bd 104 (beq_eq_false_iff_ne.mpr c17)<| T_nr 27 [0] [.bool false] hQ h
     rw[if_neg c15]at h
     exact N_bd 100 (beq_eq_false_iff_ne.mpr c15)<| T_nr 31 [0] [.bool false] hQ h
    rw[if_neg c13]at h
    exact N_bd 96 (beq_eq_false_iff_ne.mpr c13)<| T_nr 35 [0] [.bool false] hQ h
   rw[if_neg c11]at h
   exact N_bd 92 (beq_eq_false_iff_ne.mpr c11)<| T_nr 39 [0] [.bool false] hQ h
  rw[if_neg c9]at h
  exact N_bd 88 (beq_eq_false_iff_ne.mpr c9)<| T_nr 43 [0] [.bool false] hQ h
 rw[if_neg c1]at h
 exact N_bd 27 (bne_iff_ne.mpr c1)<| T_ed 3 [27] [(30,.bool true)]<| T_tz 30<| T_srz 3<| T_nr 1 [0] [.bool false] hQ h
end morainelaw20_awake

end Go.Proofs.YtibpklpgmgakcaaGreat
