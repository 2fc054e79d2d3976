/- Printed: what each function asks, and that it is sound. -/
import Derived.Test.YtiebboaeaoobmaaGreatFnsC
set_option linter.unusedSimpArgs false
set_option linter.unusedVariables false
set_option maxRecDepth 100000
set_option maxHeartbeats 1000000
noncomputable section
namespace Go.Proofs.YtiebboaeaoobmaaGreat
open Go
/-! moraine/eqtab.Put -/
namespace eqtab_Put
def K0:=Func.code Tryz.f15
def K2:=cb K0
def K4:=cb K2
def K6:=cb K4
def K12:=cb K6
def K22:=cb K12
def K24:=cb K22
def K26:=cb K24
def K32:=cb K26
def K34:=cb K32
def K40:=cb K34
def K42:=cb K40
def K48:=cb K42
def K49:=ca K48
end eqtab_Put
def eqtab_Put.pt(hv:zW)(tv g a:Int)(H:zV)(R:zw):Prop:=
 eqtab_open.C hv tv H (λv H1=> ∃(n:zW) (ae rb:Int),v=.tuple #[.agg #[.pointer n,.int .u64 ae],.int .i64 rb]/\
 ∀(b:Nat) (H2:zV),b=H1.size->H2=H1.push (.cells #[.pointer none,.int .u64 0] 72)->
 (CanPuts H2 (ad b) 0 2)/\ ∀H3,H3=hputs H2 (ad b) [.pointer n,.int .u64 ae] 0->
 if rb=0 then(
 ∃(z:zW) (xw:Int),RowAt H3 (ad b) 0 [.pointer z,.int .u64 xw]/\
 eqtab_table_find.C z xw g H3 (λa6 H4=> ∃(ra:Int) (y:Bool),a6=.tuple #[.int .u64 ra,.bool y]/\
 if y=true then(
 obj_Heap_SetCdr.C hv ra a H4 (λa7 H5=> ∃x:Int,a7=.int .i64 x/\
 R (.int .i64 x) H5))
 else
 eqtab_index.C g H4 (λa2 H6=> ∃d:Int,a2=.int .i64 d/\
 obj_Heap_Cons.C hv g a H6 (λay H7=> ∃f l:Int,ay=.tuple #[.int .u64 f,.int .i64 l]/\
 if l=0 then(
 ∃(t:zW) (ag:Int),RowAt H7 (ad b) 0 [.pointer t,.int .u64 ag]/\
 eqtab_table_get.C t ag 1 H7 (λa0 H8=> ∃ak:Int,a0=.int .u64 ak/\
 obj_Heap_Cons.C hv f ak H8 (λa3 H9=> ∃e m:Int,a3=.tuple #[.int .u64 e,.int .i64 m]/\
 if m=0 then(
 ∃(q:zW) (ab:Int),RowAt H9 (ad b) 0 [.pointer q,.int .u64 ab]/\
 eqtab_table_bucket.C q ab d H9 (λaz a1=> ∃aj:Int,az=.int .u64 aj/\
 obj_Heap_Cons.C hv f aj a1 (λa5 am=> ∃i k:Int,a5=.tuple #[.int .u64 i,.int .i64 k]/\
 if k=0 then(
 ∃(s:zW) (af:Int),RowAt am (ad b) 0 [.pointer s,.int .u64 af]/\
 eqtab_table_get.C s af 0 am (λap a4=> ∃ah:Int,ap=.int .u64 ah/\
 word_Int.C ah a4 (λav aq=> ∃(p:Int) (al:Bool),av=.tuple #[.int .i64 p,.bool al]/\
 ∃(j:zW) (u:Int),RowAt aq (ad b) 0 [.pointer j,.int .u64 u]/\
 eqtab_fix.C (zY (p+1)) aq (λaw au=> ∃ai:Int,aw=.int .u64 ai/\RowAt au (ad b) 0 [.pointer j,.int .u64 u]/\
 eqtab_table_set.C j u 0 ai au (λ_ ao=>
 ∃(o:zW) (aa:Int),RowAt ao (ad b) 0 [.pointer o,.int .u64 aa]/\
 eqtab_table_set.C o aa 1 e ao (λ_ an=>
 ∃(r:zW) (ac:Int),RowAt an (ad b) 0 [.pointer r,.int .u64 ac]/\
 eqtab_table_setBucket.C r ac d i an (λ_ ax=>
 R (.int .i64 0) ax)))))))
 else
 R (.int .i64 k) am)))
 else
 R (.int .i64 m) H9)))
 else
 R (.int .i64 l) H7))))
 else
 R (.int .i64 rb) H3)
namespace eqtab_Put
theorem link{hv:zW}{tv g a:Int}{H:zV}{R:zw}(h:pt hv tv g a H R):C hv tv g a H R:=by
 refine T_en K0 92 Tryz.func15 ?_
 intro w0 Q hQ
 unfold pt zY at h
 refine T_su [(0,vp hv),(1,vu tv),(2,vu g),(3,vu a)]<| T_srz 0<| T_ed 1 [] []<| T_srz 1<| T_nd 2 [1] [(20,vp hv),(21,vu tv)]<| T_c (some 22) h ?_;clear h
 rintro v H1 ⟨n,ae,rb,rfl,h⟩
 refine T_pd [20,21] [(22,.tuple #[.agg #[vp n,vu ae],vi rb])]<| T_nd 3 [22] [(23,.agg #[vp n,vu ae]),(24,vi rb)]<| T_nw (some 9) (λb=>vp (pa b)) (.cells #[vp none,vu 0] 72) ?_
 intro b H2 e1 e2
 replace h:=h b H2 e1 e2
 refine T_pd [] [(9,vp (pa b))] ?_
 obtain⟨q4,h⟩:=h
 refine T_sta 72 [vp n,vu ae] q4 ?_
 intro H3 e3
 replace h:=h H3 e3
 refine T_pd [23] []<| T_ed 1 [24] [(10,vi rb)]<| T_sz<| T_srz 2<| T_ed 2 [] [(26,.bool (rb !=0))] ?_
 by_cases c5:rb=0
 ·rw[if_pos c5]at h
  refine T_cFz 26 (bne_eq_false_iff_eq.mpr c5)<| T_kt<| T_sz<| T_srz 4<| T_ud [10,26] [] ?_
  obtain⟨z,xw,q7,h⟩:=h
  refine T_lr 29 72 q7 []<| T_nd 1 [] [(30,vu g)]<| T_c (some 31) h ?_;clear h
  rintro a6 H4 ⟨ra,y,rfl,h⟩
  refine T_pd [29,30] [(31,.tuple #[vu ra,.bool y])]<| T_ed 5 [31] [(11,vu ra),(12,.bool y)]<| T_srz 5<| T_ed 1 [12] [(34,.bool y)] ?_
  by_cases c8:y=true
  ·rw[if_pos c8]at h
   refine T_cTz 34 c8<| T_srz 6<| T_n 3 [(35,vp hv),(36,vu ra),(37,vu a)]<| T_c (some 38) h ?_;clear h
   rintro a7 H5 ⟨x,rfl,h⟩
   refine⟨[(38,vi x)],pk,?_⟩
   exact T_nr 1 [8] [vi x] hQ h
  rw[if_neg c8]at h
  refine T_cFz 34 (zZ c8)<| T_kt<| T_srz 7<| T_nd 1 [11,34] [(39,vu g)]<| T_c (some 40) h ?_;clear h
  rintro a2 H6 ⟨d,rfl,h⟩
  refine T_pd [39] [(40,vi d)]<| T_ed 1 [40] [(13,vi d)]<| T_srz 8<| T_nd 3 [2,3] [(42,vp hv),(43,vu g),(44,vu a)]<| T_c (some 45) h ?_;clear h
  rintro ay H7 ⟨f,l,rfl,h⟩
  refine T_pd [42,43,44] [(45,.tuple #[vu f,vi l])]<| T_ed 5 [45] [(10,vi l),(14,vu f)]<| T_sz<| T_srz 9<| T_ed 2 [] [(49,.bool (l !=0))] ?_
  by_cases c10:l=0
  ·rw[if_pos c10]at h
   refine T_cFz 49 (bne_eq_false_iff_eq.mpr c10)<| T_kt<| T_srz 11<| T_nd 2 [10,49] [(52,vp hv),(53,vu f)] ?_
   obtain⟨t,ag,q12,h⟩:=h
   refine T_lr 54 72 q12 []<| T_c (some 55) h ?_;clear h
   rintro a0 H8 ⟨ak,rfl,h⟩
   refine T_pd [54] [(55,vu ak)]<| T_c (some 56) h ?_;clear h
   rintro a3 H9 ⟨e,m,rfl,h⟩
   refine T_pd [52,53,55] [(56,.tuple #[vu e,vi m])]<| T_ed 5 [56] [(10,vi m),(15,vu e)]<| T_sz<| T_srz 12<| T_ed 2 [] [(60,.bool (m !=0))] ?_
   by_cases c13:m=0
   ·rw[if_pos c13]at h
    refine T_cFz 60 (bne_eq_false_iff_eq.mpr c13)<| T_kt<| T_srz 14<| T_nd 2 [0,10,14,60] [(63,vp hv),(64,vu f)] ?_
    obtain⟨q,ab,q15,h⟩:=h
    refine T_lr 65 72 q15 []<| T_nd 1 [] [(66,vi d)]<| T_c (some 67) h ?_;clear h
    rintro az a1 ⟨aj,rfl,h⟩
    refine T_pd [65,66] [(67,vu aj)]<| T_c (some 68) h ?_;clear h
    rintro a5 am ⟨i,k,rfl,h⟩
    refine T_pd [63,64,67] [(68,.tuple #[vu i,vi k])]<| T_ed 5 [68] [(10,vi k),(16,vu i)]<| T_sz<| T_srz 15<| T_ed 2 [] [(72,.bool (k !=0))] ?_
    by_cases c16:k=0
    ·rw[if_pos c16]at h
     refine T_cFz 72 (bne_eq_false_iff_eq.mpr c16)<| T_kt<| T_srz 17<| T_ud [10,72] [] ?_
     obtain⟨s,af,q18,h⟩:=h
     refine T_lr 75 72 q18 []<| T_c (some 76) h ?_;clear h
     rintro ap a4 ⟨ah,rfl,h⟩
     refine T_pd [75] [(76,vu ah)]<| T_c (some 77) h ?_;clear h
     rintro av aq ⟨p,al,rfl,h⟩
     refine T_pd [76] [(77,.tuple #[vi p,.bool al])]<| T_ed 5 [77] [(17,vi p)]<| T_sz ?_
     obtain⟨j,u,q19,h⟩:=h
     refine yk 18 (Code.ops K49) [(4,(ad b),[vp j,vu u])] 5 (bv 5 0) (show FactsAt _ _ _ from⟨q19,trivial⟩)<| T_g 0 (some 80) (.agg #[vp j,vu u]) (bv 5 1) [(9,vp (pa b)),(13,vi d),(15,vu e),(16,vu i),(17,vi p),(80,.agg #[vp j,vu u])] (loadN 72 (vp (pa b))) (held_row 4 (λ_=>by kernel_rfl) (λ_=>by kernel_rfl) yQ (.inl (by kernel_rfl)))<| T_gp1 1 81 (vi p) (bv 5 3) [17]<| T_gp1 2 82 (vi (zY (p+1))) (bv 5 7) [81]<| yv 3 (some 83) (bv 5 15) 38 #[vi (zY (p+1))] h ?_;clear h
     rintro aw au ⟨ai,rfl,f20,h⟩
     refine⟨[(9,vp (pa b)),(13,vi d),(15,vu e),(16,vu i),(80,.agg #[vp j,vu u]),(83,vu ai)],pk,(show FactsAt _ _ _ from⟨f20,trivial⟩),?_⟩
     refine yv 4 (some 84) (bv 5 31) 37 #[.agg #[vp j,vu u],vi 0,vu ai] h ?_;clear h
     intro v_13 ao h
     refine⟨[(9,vp (pa b)),(13,vi d),(15,vu e),(16,vu i)],pk,(show FactsAt _ _ _ from⟨trivial,trivial⟩),?_⟩
     refine G_sub [(9,vp (pa b)),(13,vi d),(15,vu e),(16,vu i)] sk ?_
     refine yw<| S_then<| T_srz 19 ?_
     obtain⟨o,aa,q21,h⟩:=h
     refine T_v (some 85) (loadN 72 (vp (pa b))) (.agg #[vp o,vu aa]) (loadN_run (loadOK_row (λ_=>by kernel_rfl) (λ_=>by kernel_rfl) q21)) [(9,vp (pa b)),(13,vi d),(15,vu e),(16,vu i),(85,.agg #[vp o,vu aa])]<| T_nd 1 [15] [(86,vu e)]<| T_c (some 87) h ?_;clear h
     intro v_14 an h
     refine T_pd [85,86] []<| T_e<| T_srz 20 ?_
     obtain⟨r,ac,q22,h⟩:=h
     refine T_lr 88 72 q22 [9]<| T_nd 2 [13,16] [(89,vi d),(90,vu i)]<| T_c (some 91) h ?_;clear h
     intro v_15 ax h
     refine⟨[],pk,?_⟩
     exact T_e<| T_srz 21<| T_nr 1 [8] [vi 0] hQ h
    rw[if_neg c16]at h
    exact T_cTz 72 (bne_iff_ne.mpr c16)<| T_srz 16<| T_nr 2 [8] [vi k] hQ h
   rw[if_neg c13]at h
   exact T_cTz 60 (bne_iff_ne.mpr c13)<| T_srz 13<| T_nr 2 [8] [vi m] hQ h
  rw[if_neg c10]at h
  exact T_cTz 49 (bne_iff_ne.mpr c10)<| T_srz 10<| T_nr 2 [8] [vi l] hQ h
 rw[if_neg c5]at h
 exact T_cTz 26 (bne_iff_ne.mpr c5)<| T_srz 3<| T_nr 2 [8] [vi rb] hQ h
end eqtab_Put

/-! moraine/eqtab.Get -/
namespace eqtab_Get
def K0:=Func.code Tryz.f19
end eqtab_Get
def eqtab_Get.pt(hv:zW)(tv d:Int)(H:zV)(R:zw):Prop:=
 eqtab_open.C hv tv H (λv H1=> ∃(a:zW) (j rb:Int),v=.tuple #[.agg #[.pointer a,.int .u64 j],.int .i64 rb]/\
 ∀(b:Nat) (H2:zV),b=H1.size->H2=H1.push (.cells #[.pointer none,.int .u64 0] 72)->
 (CanPuts H2 (ad b) 0 2)/\ ∀H3,H3=hputs H2 (ad b) [.pointer a,.int .u64 j] 0->
 if rb=0 then(
 ∃(f:zW) (xw:Int),RowAt H3 (ad b) 0 [.pointer f,.int .u64 xw]/\
 eqtab_table_find.C f xw d H3 (λl H4=> ∃(ra:Int) (e:Bool),l=.tuple #[.int .u64 ra,.bool e]/\
 if e=true then(
 obj_Heap_Cdr.C hv ra H4 (λk H5=> ∃g i:Int,k=.tuple #[.int .u64 g,.int .i64 i]/\
 R (.tuple #[.int .u64 g,.bool true,.int .i64 i]) H5))
 else
 R (.tuple #[.int .u64 0,.bool false,.int .i64 0]) H4))
 else
 R (.tuple #[.int .u64 0,.bool false,.int .i64 rb]) H3)
namespace eqtab_Get
theorem link{hv:zW}{tv d:Int}{H:zV}{R:zw}(h:pt hv tv d H R):C hv tv d H R:=by
 refine T_en K0 39 Tryz.func19 ?_
 intro w0 Q hQ
 unfold pt at h
 refine T_su [(0,vp hv),(1,vu tv),(2,vu d)]<| T_srz 0<| T_ed 3 [] []<| T_srz 1<| T_nd 2 [1] [(15,vp hv),(16,vu tv)]<| T_c (some 17) h ?_;clear h
 rintro v H1 ⟨a,j,rb,rfl,h⟩
 refine T_pd [15,16] [(17,.tuple #[.agg #[vp a,vu j],vi rb])]<| T_nd 3 [17] [(18,.agg #[vp a,vu j]),(19,vi rb)]<| T_nw (some 9) (λb=>vp (pa b)) (.cells #[vp none,vu 0] 72) ?_
 intro b H2 e1 e2
 replace h:=h b H2 e1 e2
 refine T_pd [] [(9,vp (pa b))] ?_
 obtain⟨q4,h⟩:=h
 refine T_sta 72 [vp a,vu j] q4 ?_
 intro H3 e3
 replace h:=h H3 e3
 refine T_pd [18] []<| T_ed 1 [19] [(10,vi rb)]<| T_sz<| T_srz 2<| T_ed 2 [] [(21,.bool (rb !=0))] ?_
 by_cases c5:rb=0
 ·rw[if_pos c5]at h
  refine T_cFz 21 (bne_eq_false_iff_eq.mpr c5)<| T_kt<| T_srz 4<| T_ud [10,21] [] ?_
  obtain⟨f,xw,q7,h⟩:=h
  refine T_lr 24 72 q7 [9]<| T_nd 1 [2] [(25,vu d)]<| T_c (some 26) h ?_;clear h
  rintro l H4 ⟨ra,e,rfl,h⟩
  refine T_pd [24,25] [(26,.tuple #[vu ra,.bool e])]<| T_ed 5 [26] [(11,vu ra),(12,.bool e)]<| T_sz<| T_srz 5<| T_ed 2 [12] [(30,.bool (!e))] ?_
  by_cases c8:e=true
  ·rw[if_pos c8]at h
   refine T_cFz 30 (congrArg Bool.not (c8))<| T_kt<| T_srz 7<| T_n 2 [(32,vp hv),(33,vu ra)]<| T_c (some 34) h ?_;clear h
   rintro k H5 ⟨g,i,rfl,h⟩
   refine⟨[(34,.tuple #[vu g,vi i])],pk,?_⟩
   exact T_ne 5 [(10,vi i),(13,vu g)]<| T_srz 8<| T_nr 5 [6,7,8] [vu g,.bool true,vi i] hQ h
  rw[if_neg c8]at h
  exact T_cTz 30 (congrArg Bool.not (zZ c8))<| T_srz 6<| T_nr 3 [6,7,8] [vu 0,.bool false,vi 0] hQ h
 rw[if_neg c5]at h
 exact T_cTz 21 (bne_iff_ne.mpr c5)<| T_srz 3<| T_nr 4 [6,7,8] [vu 0,.bool false,vi rb] hQ h
end eqtab_Get

/-! moraine/eqtab.Delete -/
namespace eqtab_Delete
def K0:=Func.code Tryz.f20
def K2:=cb K0
def K4:=cb K2
def K6:=cb K4
def K12:=cb K6
def K14:=cb K12
def K20:=cb K14
def K21:=ca K20
def K22:=cb K20
def K24:=cb K22
def K25:=ca K24
def K26:=cb K24
def K28:=cb K26
def K30:=cb K28
def K32:=cb K30
def K33:=ca K32
end eqtab_Delete
def eqtab_Delete.pt(hv:zW)(tv e:Int)(H:zV)(R:zw):Prop:=
 eqtab_open.C hv tv H (λv H1=> ∃(j:zW) (af rb:Int),v=.tuple #[.agg #[.pointer j,.int .u64 af],.int .i64 rb]/\
 ∀(b:Nat) (H2:zV),b=H1.size->H2=H1.push (.cells #[.pointer none,.int .u64 0] 72)->
 (CanPuts H2 (ad b) 0 2)/\ ∀H3,H3=hputs H2 (ad b) [.pointer j,.int .u64 af] 0->
 if rb=0 then(
 ∃(u:zW) (xw:Int),RowAt H3 (ad b) 0 [.pointer u,.int .u64 xw]/\
 eqtab_table_find.C u xw e H3 (λa3 H4=> ∃(ra:Int) (s:Bool),a3=.tuple #[.int .u64 ra,.bool s]/\
 if s=true then(
 eqtab_index.C e H4 (λa4 H5=> ∃x:Int,a4=.int .i64 x/\
 ∃(d:zW) (p:Int),RowAt H5 (ad b) 0 [.pointer d,.int .u64 p]/\
 ∃(g:zW) (t:Int),RowAt H5 (ad b) 0 [.pointer g,.int .u64 t]/\
 eqtab_table_bucket.C g t x H5 (λa1 H6=> ∃ah:Int,a1=.int .u64 ah/\RowAt H6 (ad b) 0 [.pointer d,.int .u64 p]/\
 eqtab_table_without.C d p ah ra H6 (λaz H7=> ∃aa:Int,az=.int .u64 aa/\
 ∃(l:zW) (ab:Int),RowAt H7 (ad b) 0 [.pointer l,.int .u64 ab]/\
 eqtab_table_setBucket.C l ab x aa H7 (λ_ H8=>
 ∃(f:zW) (r:Int),RowAt H8 (ad b) 0 [.pointer f,.int .u64 r]/\
 ∃(i:zW) (y:Int),RowAt H8 (ad b) 0 [.pointer i,.int .u64 y]/\
 eqtab_table_get.C i y 1 H8 (λa2 H9=> ∃ak:Int,a2=.int .u64 ak/\RowAt H9 (ad b) 0 [.pointer f,.int .u64 r]/\
 eqtab_table_without.C f r ak ra H9 (λa0 ao=> ∃z:Int,a0=.int .u64 z/\
 ∃(o:zW) (ac:Int),RowAt ao (ad b) 0 [.pointer o,.int .u64 ac]/\
 eqtab_table_set.C o ac 1 z ao (λ_ aw=>
 ∃(m:zW) (ae:Int),RowAt aw (ad b) 0 [.pointer m,.int .u64 ae]/\
 eqtab_table_clear.C m ae ra aw (λ_ aq=>
 ∃(q:zW) (ag:Int),RowAt aq (ad b) 0 [.pointer q,.int .u64 ag]/\
 eqtab_table_get.C q ag 0 aq (λau ay=> ∃ai:Int,au=.int .u64 ai/\
 word_Int.C ai ay (λav ap=> ∃(n:Int) (al:Bool),av=.tuple #[.int .i64 n,.bool al]/\
 ∃(a:zW) (k:Int),RowAt ap (ad b) 0 [.pointer a,.int .u64 k]/\
 eqtab_fix.C (zY (n-1)) ap (λam an=> ∃aj:Int,am=.int .u64 aj/\RowAt an (ad b) 0 [.pointer a,.int .u64 k]/\
 eqtab_table_set.C a k 0 aj an (λ_ ax=>
 R (.tuple #[.bool true,.int .i64 0]) ax)))))))))))))
 else
 R (.tuple #[.bool false,.int .i64 0]) H4))
 else
 R (.tuple #[.bool false,.int .i64 rb]) H3)
namespace eqtab_Delete
theorem link{hv:zW}{tv e:Int}{H:zV}{R:zw}(h:pt hv tv e H R):C hv tv e H R:=by
 refine T_en K0 68 Tryz.func20 ?_
 intro w0 Q hQ
 unfold pt zY at h
 refine T_su [(0,vp hv),(1,vu tv),(2,vu e)]<| T_srz 0<| T_ed 2 [] []<| T_srz 1<| T_nd 2 [0,1] [(18,vp hv),(19,vu tv)]<| T_c (some 20) h ?_;clear h
 rintro v H1 ⟨j,af,rb,rfl,h⟩
 refine⟨[(2,vu e),(20,.tuple #[.agg #[vp j,vu af],vi rb])],pk,?_⟩
 refine T_nd 3 [20] [(21,.agg #[vp j,vu af]),(22,vi rb)]<| T_nw (some 8) (λb=>vp (pa b)) (.cells #[vp none,vu 0] 72) ?_
 intro b H2 e1 e2
 replace h:=h b H2 e1 e2
 refine T_pd [] [(8,vp (pa b))] ?_
 obtain⟨q4,h⟩:=h
 refine T_sta 72 [vp j,vu af] q4 ?_
 intro H3 e3
 replace h:=h H3 e3
 refine T_pd [21] []<| T_ed 1 [22] [(9,vi rb)]<| T_sz<| T_srz 2<| T_ed 2 [] [(24,.bool (rb !=0))] ?_
 by_cases c5:rb=0
 ·rw[if_pos c5]at h
  refine T_cFz 24 (bne_eq_false_iff_eq.mpr c5)<| T_kt<| T_srz 4<| T_ud [9,24] [] ?_
  obtain⟨u,xw,q7,h⟩:=h
  refine T_lr 27 72 q7 []<| T_nd 1 [] [(28,vu e)]<| T_c (some 29) h ?_;clear h
  rintro a3 H4 ⟨ra,s,rfl,h⟩
  refine T_pd [27,28] [(29,.tuple #[vu ra,.bool s])]<| T_ed 5 [29] [(10,vu ra),(11,.bool s)]<| T_sz<| T_srz 5<| T_ed 2 [11] [(33,.bool (!s))] ?_
  by_cases c8:s=true
  ·rw[if_pos c8]at h
   refine T_cFz 33 (congrArg Bool.not (c8))<| T_kt<| T_srz 7<| T_nd 1 [2,33] [(34,vu e)]<| T_c (some 35) h ?_;clear h
   rintro a4 H5 ⟨x,rfl,h⟩
   refine T_pd [34] [(35,vi x)]<| T_ed 1 [35] [(12,vi x)]<| T_sz ?_
   obtain⟨d,p,q10,g,t,q11,h⟩:=h
   refine yk 8 (Code.ops K21) [(5,(ad b),[vp d,vu p]),(3,(ad b),[vp g,vu t])] 7 (bv 7 0) (show FactsAt _ _ _ from⟨q10,q11,trivial⟩)<| T_g 0 (some 36) (.agg #[vp d,vu p]) (bv 7 1) [(8,vp (pa b)),(10,vu ra),(12,vi x),(36,.agg #[vp d,vu p])] (loadN 72 (vp (pa b))) (held_row 5 (λ_=>by kernel_rfl) (λ_=>by kernel_rfl) yQ (.inl (by kernel_rfl)))<| T_g1 1 37 (.agg #[vp g,vu t]) (bv 7 3) [] (loadN 72 (vp (pa b))) (held_row 3 (λ_=>by kernel_rfl) (λ_=>by kernel_rfl) yJ (.inl (by kernel_rfl)))<| T_gp1 2 38 (vi x) (bv 7 7) []<| T_gp1 4 40 (vu ra) (bv 7 23) []<| yv 3 (some 39) (bv 7 31) 35 #[.agg #[vp g,vu t],vi x] h ?_;clear h
   rintro a1 H6 ⟨ah,rfl,f12,h⟩
   refine⟨[(8,vp (pa b)),(10,vu ra),(12,vi x),(36,.agg #[vp d,vu p]),(39,vu ah),(40,vu ra)],pk,(show FactsAt _ _ _ from⟨f12,trivial,trivial⟩),?_⟩
   refine yv 5 (some 41) (bv 7 63) 42 #[.agg #[vp d,vu p],vu ah,vu ra] h ?_;clear h
   rintro az H7 ⟨aa,rfl,h⟩
   refine⟨[(8,vp (pa b)),(10,vu ra),(12,vi x),(41,vu aa)],pk,(show FactsAt _ _ _ from⟨trivial,trivial,trivial⟩),?_⟩
   refine T_g 6 (some 13) (vu aa) (bv 7 127) [(8,vp (pa b)),(10,vu ra),(12,vi x),(13,vu aa)] (pure (.value (vu aa)):Sem Next) (λ_ _ _ _ _=>rfl)<| G_sub [(8,vp (pa b)),(10,vu ra),(12,vi x),(13,vu aa)] sk<| yw<| S_then<| T_srz 9 ?_
   obtain⟨l,ab,q13,h⟩:=h
   refine T_v (some 42) (loadN 72 (vp (pa b))) (.agg #[vp l,vu ab]) (loadN_run (loadOK_row (λ_=>by kernel_rfl) (λ_=>by kernel_rfl) q13)) [(8,vp (pa b)),(10,vu ra),(12,vi x),(13,vu aa),(42,.agg #[vp l,vu ab])]<| T_nd 2 [12,13] [(43,vi x),(44,vu aa)]<| T_c (some 45) h ?_;clear h
   intro v_6 H8 h
   refine T_pd [42,43,44] []<| T_e<| T_sz ?_
   obtain⟨f,r,q14,i,y,q15,h⟩:=h
   refine yk 10 (Code.ops K25) [(4,(ad b),[vp f,vu r]),(2,(ad b),[vp i,vu y])] 6 (bv 6 0) (show FactsAt _ _ _ from⟨q14,q15,trivial⟩)<| T_g 0 (some 46) (.agg #[vp f,vu r]) (bv 6 1) [(8,vp (pa b)),(10,vu ra),(46,.agg #[vp f,vu r])] (loadN 72 (vp (pa b))) (held_row 4 (λ_=>by kernel_rfl) (λ_=>by kernel_rfl) yQ (.inl (by kernel_rfl)))<| T_g1 1 47 (.agg #[vp i,vu y]) (bv 6 3) [] (loadN 72 (vp (pa b))) (held_row 2 (λ_=>by kernel_rfl) (λ_=>by kernel_rfl) yJ (.inl (by kernel_rfl)))<| T_gp1 3 49 (vu ra) (bv 6 11) []<| yv 2 (some 48) (bv 6 15) 34 #[.agg #[vp i,vu y],vi 1] h ?_;clear h
   rintro a2 H9 ⟨ak,rfl,f16,h⟩
   refine⟨[(8,vp (pa b)),(10,vu ra),(46,.agg #[vp f,vu r]),(48,vu ak),(49,vu ra)],pk,(show FactsAt _ _ _ from⟨f16,trivial,trivial⟩),?_⟩
   refine yv 4 (some 50) (bv 6 31) 42 #[.agg #[vp f,vu r],vu ak,vu ra] h ?_;clear h
   rintro a0 ao ⟨z,rfl,h⟩
   refine⟨[(8,vp (pa b)),(10,vu ra),(50,vu z)],pk,(show FactsAt _ _ _ from⟨trivial,trivial,trivial⟩),?_⟩
   refine T_g 5 (some 14) (vu z) (bv 6 63) [(8,vp (pa b)),(10,vu ra),(14,vu z)] (pure (.value (vu z)):Sem Next) (λ_ _ _ _ _=>rfl)<| G_sub [(8,vp (pa b)),(10,vu ra),(14,vu z)] sk<| yw<| S_then<| T_srz 11 ?_
   obtain⟨o,ac,q17,h⟩:=h
   refine T_v (some 51) (loadN 72 (vp (pa b))) (.agg #[vp o,vu ac]) (loadN_run (loadOK_row (λ_=>by kernel_rfl) (λ_=>by kernel_rfl) q17)) [(8,vp (pa b)),(10,vu ra),(14,vu z),(51,.agg #[vp o,vu ac])]<| T_nd 1 [14] [(52,vu z)]<| T_c (some 53) h ?_;clear h
   intro v_9 aw h
   refine T_pd [51,52] []<| T_e<| T_srz 12 ?_
   obtain⟨m,ae,q18,h⟩:=h
   refine T_lr 54 72 q18 []<| T_nd 1 [10] [(55,vu ra)]<| T_c (some 56) h ?_;clear h
   intro v_10 aq h
   refine T_pd [54,55] []<| T_e<| T_srz 13 ?_
   obtain⟨q,ag,q19,h⟩:=h
   refine T_lr 58 72 q19 []<| T_c (some 59) h ?_;clear h
   rintro au ay ⟨ai,rfl,h⟩
   refine T_pd [58] [(59,vu ai)]<| T_c (some 60) h ?_;clear h
   rintro av ap ⟨n,al,rfl,h⟩
   refine T_pd [59] [(60,.tuple #[vi n,.bool al])]<| T_ed 5 [60] [(15,vi n)]<| T_sz ?_
   obtain⟨a,k,q20,h⟩:=h
   refine yk 14 (Code.ops K33) [(4,(ad b),[vp a,vu k])] 5 (bv 5 0) (show FactsAt _ _ _ from⟨q20,trivial⟩)<| T_g 0 (some 63) (.agg #[vp a,vu k]) (bv 5 1) [(15,vi n),(63,.agg #[vp a,vu k])] (loadN 72 (vp (pa b))) (held_row 4 (λ_=>by kernel_rfl) (λ_=>by kernel_rfl) yQ (.inl (by kernel_rfl)))<| T_gp1 1 64 (vi n) (bv 5 3) [15]<| T_gp1 2 65 (vi (zY (n-1))) (bv 5 7) [64]<| yv 3 (some 66) (bv 5 15) 38 #[vi (zY (n-1))] h ?_;clear h
   rintro am an ⟨aj,rfl,f21,h⟩
   refine⟨[(63,.agg #[vp a,vu k]),(66,vu aj)],pk,(show FactsAt _ _ _ from⟨f21,trivial⟩),?_⟩
   refine yv 4 (some 67) (bv 5 31) 37 #[.agg #[vp a,vu k],vi 0,vu aj] h ?_;clear h
   intro v_14 ax h
   refine⟨[],pk,(show FactsAt _ _ _ from⟨trivial,trivial⟩),?_⟩
   refine G_sub [] sk ?_
   exact yw<| S_then<| T_srz 15<| T_nr 2 [6,7] [.bool true,vi 0] hQ h
  rw[if_neg c8]at h
  exact T_cTz 33 (congrArg Bool.not (zZ c8))<| T_srz 6<| T_nr 2 [6,7] [.bool false,vi 0] hQ h
 rw[if_neg c5]at h
 exact T_cTz 24 (bne_iff_ne.mpr c5)<| T_srz 3<| T_nr 3 [6,7] [.bool false,vi rb] hQ h
end eqtab_Delete

/-! moraine/eqtab.Count -/
namespace eqtab_Count
def K0:=Func.code Tryz.f21
end eqtab_Count
def eqtab_Count.pt(hv:zW)(tv:Int)(H:zV)(R:zw):Prop:=
 eqtab_open.C hv tv H (λv H1=> ∃(a:zW) (e rb:Int),v=.tuple #[.agg #[.pointer a,.int .u64 e],.int .i64 rb]/\
 ∀(b:Nat) (H2:zV),b=H1.size->H2=H1.push (.cells #[.pointer none,.int .u64 0] 72)->
 (CanPuts H2 (ad b) 0 2)/\ ∀H3,H3=hputs H2 (ad b) [.pointer a,.int .u64 e] 0->
 if rb=0 then(
 ∃(d:zW) (xw:Int),RowAt H3 (ad b) 0 [.pointer d,.int .u64 xw]/\
 eqtab_table_get.C d xw 0 H3 (λi H4=> ∃x:Int,i=.int .u64 x/\
 word_Int.C x H4 (λg H5=> ∃(ra:Int) (f:Bool),g=.tuple #[.int .i64 ra,.bool f]/\
 R (.tuple #[.int .i64 ra,.int .i64 0]) H5)))
 else
 R (.tuple #[.int .i64 0,.int .i64 rb]) H3)
namespace eqtab_Count
theorem link{hv:zW}{tv:Int}{H:zV}{R:zw}(h:pt hv tv H R):C hv tv H R:=by
 refine T_en K0 26 Tryz.func21 ?_
 intro w0 Q hQ
 unfold pt at h
 refine T_su [(0,vp hv),(1,vu tv)]<| T_srz 0<| T_ed 2 [] []<| T_srz 1<| T_n 2 [(11,vp hv),(12,vu tv)]<| T_c (some 13) h ?_;clear h
 rintro v H1 ⟨a,e,rb,rfl,h⟩
 refine⟨[(13,.tuple #[.agg #[vp a,vu e],vi rb])],pk,?_⟩
 refine T_n 3 [(14,.agg #[vp a,vu e]),(15,vi rb)]<| T_nw (some 6) (λb=>vp (pa b)) (.cells #[vp none,vu 0] 72) ?_
 intro b H2 e1 e2
 replace h:=h b H2 e1 e2
 refine T_pd [] [(6,vp (pa b))] ?_
 obtain⟨q4,h⟩:=h
 refine T_sta 72 [vp a,vu e] q4 ?_
 intro H3 e3
 replace h:=h H3 e3
 refine T_pd [14] []<| T_ed 1 [15] [(7,vi rb)]<| T_sz<| T_srz 2<| T_ed 2 [] [(17,.bool (rb !=0))] ?_
 by_cases c5:rb=0
 ·rw[if_pos c5]at h
  refine T_cFz 17 (bne_eq_false_iff_eq.mpr c5)<| T_kt<| T_srz 4<| T_ud [7,17] [] ?_
  obtain⟨d,xw,q7,h⟩:=h
  refine T_lr 20 72 q7 [6]<| T_c (some 21) h ?_;clear h
  rintro i H4 ⟨x,rfl,h⟩
  refine⟨[(21,vu x)],pk,?_⟩
  refine T_c (some 22) h ?_;clear h
  rintro g H5 ⟨ra,f,rfl,h⟩
  refine⟨[(22,.tuple #[vi ra,.bool f])],pk,?_⟩
  exact T_ne 5 [(8,vi ra)]<| T_srz 5<| T_nr 3 [4,5] [vi ra,vi 0] hQ h
 rw[if_neg c5]at h
 exact T_cTz 17 (bne_iff_ne.mpr c5)<| T_srz 3<| T_nr 3 [4,5] [vi 0,vi rb] hQ h
end eqtab_Count

/-! moraine/eqtab.Keys -/
namespace eqtab_Keys
def K0:=Func.code Tryz.f22
end eqtab_Keys
def eqtab_Keys.pt(hv:zW)(tv:Int)(H:zV)(R:zw):Prop:=
 ∀(b:Nat) (H1:zV),b=H.size->H1=H.push (.cells #[.pointer hv] 34)->
 ∃x:zW,hat H1 (ad b)=some (.pointer x)/\
 eqtab_told.C x tv (.func (.func 45) #[] #[.pointer (some (ad b))]) H1 (λv H2=> ∃(d:zW) (a e:Nat) (rb:Int),v=.tuple #[.slice d a e,.int .i64 rb]/\
 R (.tuple #[.slice d a e,.int .i64 rb]) H2)
namespace eqtab_Keys
theorem link{hv:zW}{tv:Int}{H:zV}{R:zw}(h:pt hv tv H R):C hv tv H R:=by
 refine T_en K0 12 Tryz.func22 ?_
 intro w0 Q hQ
 unfold pt at h
 refine T_su [(0,vp hv),(1,vu tv)]<| T_srz 0<| T_nw (some 2) (λb=>vp (pa b)) (.cells #[vp hv] 34) ?_
 intro b H1 e1 e2
 replace h:=h b H1 e1 e2
 refine T_pd [0] [(2,vp (pa b))]<| T_ed 2 [] []<| T_srz 1 ?_
 obtain⟨x,q3,h⟩:=h
 refine T_l1 6 34 q3 []<| T_nd 2 [1,2] [(7,vu tv),(8,.func (.func 45) #[] #[vp (pa b)])]<| T_c (some 9) h ?_;clear h
 rintro v H2 ⟨d,a,e,rb,rfl,h⟩
 refine⟨[(9,.tuple #[vs d a e,vi rb])],pk,?_⟩
 exact T_nr 4 [4,5] [vs d a e,vi rb] hQ h
end eqtab_Keys

/-! moraine/eqtab.New -/
namespace eqtab_New
def K0:=Func.code Tryz.f23
end eqtab_New
def eqtab_New.pt(hv:zW)(H:zV)(R:zw):Prop:=
 onPtr hv (
 R (.tuple #[.int .u64 0,.int .i64 2]) H) (λa=>
 obj_Heap_Vector.C (some a) 31 20 H (λv H1=> ∃ra rb:Int,v=.tuple #[.int .u64 ra,.int .i64 rb]/\
 if rb=0 then(
 eqtab_fix.C 0 H1 (λk H2=> ∃x:Int,k=.int .u64 x/\
 obj_Heap_Epoch.C (some a) H2 (λl H3=> ∃f:Int,l=.int .u64 f/\
 eqtab_fix.C (zY f) H3 (λj H4=> ∃g:Int,j=.int .u64 g/\
 ∀(b:Nat) (H5:zV),b=H4.size->H5=H4.push (.cells #[.int .u64 x,.int .u64 20,.int .u64 ra,.int .u64 g] 31)->
 obj_Heap_Make.C (some a) 11 0 (some (ad b)) 4 4 H5 (λi H6=> ∃e d:Int,i=.tuple #[.int .u64 e,.int .i64 d]/\
 R (.tuple #[.int .u64 e,.int .i64 d]) H6)))))
 else
 R (.tuple #[.int .u64 0,.int .i64 rb]) H1))
namespace eqtab_New
theorem link{hv:zW}{H:zV}{R:zw}(h:pt hv H R):C hv H R:=by
 refine T_en K0 27 Tryz.func23 ?_
 intro w0 Q hQ
 unfold pt zY at h
 refine T_su [(0,vp hv)]<| T_srz 0<| T_ed 2 [] []<| T_sz<| T_srz 1<| T_nd 1 [] [(6,vp hv)] ?_
 rcases hv with _ | a
 ·rw[onPtr_none]at h
  exact T_ne 1 [(0,vp none),(7,.bool true)]<| T_tz 7<| T_srz 2<| T_nr 2 [2,3] [vu 0,vi 2] hQ h
 rw[onPtr_some]at h
 refine T_ne 1 [(0,vp (some a)),(7,.bool false)]<| T_fz 7<| T_kt<| T_srz 3<| T_nd 1 [7] [(9,vp (some a))]<| T_c (some 10) h ?_;clear h
 rintro v H1 ⟨ra,rb,rfl,h⟩
 refine T_pd [9] [(10,.tuple #[vu ra,vi rb])]<| T_ed 5 [10] [(4,vu ra),(5,vi rb)]<| T_sz<| T_srz 4<| T_ed 2 [] [(14,.bool (rb !=0))] ?_
 by_cases c1:rb=0
 ·rw[if_pos c1]at h
  refine T_cFz 14 (bne_eq_false_iff_eq.mpr c1)<| T_kt<| T_srz 6<| T_nd 1 [5,14] [(16,vp (some a))]<| T_c (some 17) h ?_;clear h
  rintro k H2 ⟨x,rfl,h⟩
  refine T_pd [] [(17,vu x)]<| T_nd 2 [0,4] [(18,vu ra),(19,vp (some a))]<| T_c (some 20) h ?_;clear h
  rintro l H3 ⟨f,rfl,h⟩
  refine T_pd [19] [(20,vu f)]<| T_nd 1 [20] [(21,vi (zY f))]<| T_c (some 22) h ?_;clear h
  rintro j H4 ⟨g,rfl,h⟩
  refine T_pd [21] [(22,vu g)]<| T_nw (some 23) (λb=>vs (pa b) 4 4) (.cells #[vu x,vu 20,vu ra,vu g] 31) ?_
  intro b H5 e3 e4
  replace h:=h b H5 e3 e4
  refine T_pd [17,18,22] [(23,vs (pa b) 4 4)]<| T_c (some 24) h ?_;clear h
  rintro i H6 ⟨e,d,rfl,h⟩
  refine⟨[(24,.tuple #[vu e,vi d])],pk,?_⟩
  exact T_nr 4 [2,3] [vu e,vi d] hQ h
 rw[if_neg c1]at h
 exact T_cTz 14 (bne_iff_ne.mpr c1)<| T_srz 5<| T_nr 3 [2,3] [vu 0,vi rb] hQ h
end eqtab_New

/-! moraine/eqtab.Values -/
namespace eqtab_Values
def K0:=Func.code Tryz.f24
end eqtab_Values
def eqtab_Values.pt(hv:zW)(tv:Int)(H:zV)(R:zw):Prop:=
 ∀(b:Nat) (H1:zV),b=H.size->H1=H.push (.cells #[.pointer hv] 34)->
 ∃x:zW,hat H1 (ad b)=some (.pointer x)/\
 eqtab_told.C x tv (.func (.func 50) #[] #[.pointer (some (ad b))]) H1 (λv H2=> ∃(d:zW) (a e:Nat) (rb:Int),v=.tuple #[.slice d a e,.int .i64 rb]/\
 R (.tuple #[.slice d a e,.int .i64 rb]) H2)
namespace eqtab_Values
theorem link{hv:zW}{tv:Int}{H:zV}{R:zw}(h:pt hv tv H R):C hv tv H R:=by
 refine T_en K0 12 Tryz.func24 ?_
 intro w0 Q hQ
 unfold pt at h
 refine T_su [(0,vp hv),(1,vu tv)]<| T_srz 0<| T_nw (some 2) (λb=>vp (pa b)) (.cells #[vp hv] 34) ?_
 intro b H1 e1 e2
 replace h:=h b H1 e1 e2
 refine T_pd [0] [(2,vp (pa b))]<| T_ed 2 [] []<| T_srz 1 ?_
 obtain⟨x,q3,h⟩:=h
 refine T_l1 6 34 q3 []<| T_nd 2 [1,2] [(7,vu tv),(8,.func (.func 50) #[] #[vp (pa b)])]<| T_c (some 9) h ?_;clear h
 rintro v H2 ⟨d,a,e,rb,rfl,h⟩
 refine⟨[(9,.tuple #[vs d a e,vi rb])],pk,?_⟩
 exact T_nr 4 [4,5] [vs d a e,vi rb] hQ h
end eqtab_Values

/-! moraine/eqtab.open -/
namespace eqtab_open
def K0:=Func.code Tryz.f30
end eqtab_open
def eqtab_open.pt(hv:zW)(tv:Int)(H:zV)(R:zw):Prop:=
 ∀(b:Nat) (H1:zV),b=H.size->H1=H.push (.cells #[.pointer none,.int .u64 0] 72)->
 onPtr hv (
 (CanPuts H1 (ad b) 0 2)/\ ∀H2,H2=hputs H1 (ad b) [.pointer none,.int .u64 0] 0->
 ∃(i:zW) (m:Int),RowAt H2 (ad b) 0 [.pointer i,.int .u64 m]/\
 R (.tuple #[.agg #[.pointer i,.int .u64 m],.int .i64 3]) H2) (λa=>
 obj_Heap_Type.C (some a) tv H1 (λv H3=> ∃x:Int,v=.int .i64 x/\
 if x=11 then(
 obj_Heap_Len.C (some a) tv H3 (λn H4=> ∃g:Int,n=.int .i64 g/\
 if g=4 then(
 (CanPuts H4 (ad b) 0 2)/\ ∀H5,H5=hputs H4 (ad b) [.pointer (some a),.int .u64 tv] 0->
 ∃(e:zW) (l:Int),RowAt H5 (ad b) 0 [.pointer e,.int .u64 l]/\
 R (.tuple #[.agg #[.pointer e,.int .u64 l],.int .i64 0]) H5)
 else
 (CanPuts H4 (ad b) 0 2)/\ ∀H6,H6=hputs H4 (ad b) [.pointer none,.int .u64 0] 0->
 ∃(d:zW) (k:Int),RowAt H6 (ad b) 0 [.pointer d,.int .u64 k]/\
 R (.tuple #[.agg #[.pointer d,.int .u64 k],.int .i64 3]) H6))
 else
 (CanPuts H3 (ad b) 0 2)/\ ∀H7,H7=hputs H3 (ad b) [.pointer none,.int .u64 0] 0->
 ∃(f:zW) (j:Int),RowAt H7 (ad b) 0 [.pointer f,.int .u64 j]/\
 R (.tuple #[.agg #[.pointer f,.int .u64 j],.int .i64 3]) H7))
namespace eqtab_open
theorem link{hv:zW}{tv:Int}{H:zV}{R:zw}(h:pt hv tv H R):C hv tv H R:=by
 refine T_en K0 24 Tryz.func30 ?_
 intro w0 Q hQ
 unfold pt at h
 refine T_su [(0,vp hv),(1,vu tv)]<| T_srz 0<| T_nw (some 4) (λb=>vp (pa b)) (.cells #[vp none,vu 0] 72) ?_
 intro b H1 e1 e2
 replace h:=h b H1 e1 e2
 refine T_pd [] [(4,vp (pa b))]<| T_ed 1 [] []<| T_sz<| T_srz 1<| T_nd 1 [] [(6,vp hv)] ?_
 rcases hv with _ | a
 ·rw[onPtr_none]at h
  refine T_ed 13 [0,6] [(0,vp none),(19,.bool true)]<| T_tz 19<| T_srz 2<| T_nd 1 [0,1,19] [(20,.agg #[vp none,vu 0])] ?_
  obtain⟨q4,h⟩:=h
  refine T_sta 72 [vp none,vu 0] q4 ?_
  intro H2 e3
  replace h:=h H2 e3
  refine T_pd [20] []<| T_ed 1 [] [(5,vi 3)]<| zx ?_
  show At _ _ _ _ _ (Q .ret)
  obtain⟨i,m,q5,h⟩:=h
  exact S_done (fn:=Tryz.f30) [.agg #[vp i,vu m],vi 3] hQ (show ResOK _ _ _ [.cell 4 72,.tmp 5] _ from .cell (by kernel_rfl) (loadOK_row (λ_=>by kernel_rfl) (λ_=>by kernel_rfl) q5) (.tmp (by kernel_rfl) (.nil))) h
 rw[onPtr_some]at h
 refine T_nd 4 [0,6] [(0,vp (some a)),(8,.bool false),(9,vp (some a)),(10,vu tv)]<| T_c (some 11) h ?_;clear h
 rintro v H3 ⟨x,rfl,h⟩
 refine T_pd [9,10] [(11,vi x)]<| T_nd 3 [8,11] [(14,.bool (x !=11))] ?_
 by_cases c6:x=11
 ·rw[if_pos c6]at h
  refine N_bd 14 (bne_eq_false_iff_eq.mpr c6)<| T_nd 2 [] [(15,vp (some a)),(16,vu tv)] ?_
  refine T_c (some 17) h ?_;clear h
  rintro n H4 ⟨g,rfl,h⟩
  refine T_pd [15,16] [(17,vi g)]<| T_ed 2 [14,17] [(19,.bool (g !=4))] ?_
  by_cases c8:g=4
  ·rw[if_pos c8]at h
   refine T_cFz 19 (bne_eq_false_iff_eq.mpr c8)<| T_kt<| T_srz 3<| T_nd 3 [0,1,19] [(23,.agg #[vp (some a),vu tv])] ?_
   obtain⟨q11,h⟩:=h
   refine T_sta 72 [vp (some a),vu tv] q11 ?_
   intro H5 e10
   replace h:=h H5 e10
   refine T_pd [23] []<| T_ed 1 [] [(5,vi 0)]<| zx ?_
   show At _ _ _ _ _ (Q .ret)
   obtain⟨e,l,q12,h⟩:=h
   exact S_done (fn:=Tryz.f30) [.agg #[vp e,vu l],vi 0] hQ (show ResOK _ _ _ [.cell 4 72,.tmp 5] _ from .cell (by kernel_rfl) (loadOK_row (λ_=>by kernel_rfl) (λ_=>by kernel_rfl) q12) (.tmp (by kernel_rfl) (.nil))) h
  rw[if_neg c8]at h
  refine T_cTz 19 (bne_iff_ne.mpr c8)<| T_srz 2<| T_nd 1 [0,1,19] [(20,.agg #[vp none,vu 0])] ?_
  obtain⟨q14,h⟩:=h
  refine T_sta 72 [vp none,vu 0] q14 ?_
  intro H6 e13
  replace h:=h H6 e13
  refine T_pd [20] []<| T_ed 1 [] [(5,vi 3)]<| zx ?_
  show At _ _ _ _ _ (Q .ret)
  obtain⟨d,k,q15,h⟩:=h
  exact S_done (fn:=Tryz.f30) [.agg #[vp d,vu k],vi 3] hQ (show ResOK _ _ _ [.cell 4 72,.tmp 5] _ from .cell (by kernel_rfl) (loadOK_row (λ_=>by kernel_rfl) (λ_=>by kernel_rfl) q15) (.tmp (by kernel_rfl) (.nil))) h
 rw[if_neg c6]at h
 refine N_bd 14 (bne_iff_ne.mpr c6)<| T_ed 5 [14] [(19,.bool true)]<| T_tz 19<| T_srz 2<| T_nd 1 [0,1,19] [(20,.agg #[vp none,vu 0])] ?_
 obtain⟨q17,h⟩:=h
 refine T_sta 72 [vp none,vu 0] q17 ?_
 intro H7 e16
 replace h:=h H7 e16
 refine T_pd [20] []<| T_ed 1 [] [(5,vi 3)]<| zx ?_
 show At _ _ _ _ _ (Q .ret)
 obtain⟨f,j,q18,h⟩:=h
 exact S_done (fn:=Tryz.f30) [.agg #[vp f,vu j],vi 3] hQ (show ResOK _ _ _ [.cell 4 72,.tmp 5] _ from .cell (by kernel_rfl) (loadOK_row (λ_=>by kernel_rfl) (λ_=>by kernel_rfl) q18) (.tmp (by kernel_rfl) (.nil))) h
end eqtab_open

/-! (moraine/eqtab.table).find -/
namespace eqtab_table_find
def K0:=Func.code Tryz.f31
def K2:=cb K0
def K4:=cb K2
def K5:=ca K4
def K7:=ca K5
def K8:=cb K5
def K9:=ca K8
def K10:=ca K9
def K11:=cb K9
end eqtab_table_find
def eqtab_table_find.pt(o:zW)(tw y:Int)(H:zV)(R:zw):Prop:=
 ∀(b:Nat) (H1:zV),b=H.size->H1=H.push (.cells #[.pointer o,.int .u64 tw] 72)->
 ∀(f:Nat) (H2:zV),f=H1.size->H2=H1.push (.cells #[.int .u64 y] 31)->
 ∀(d:Nat) (H3:zV),d=H2.size->H3=H2.push (.cells #[.int .u64 0] 31)->
 ∀(a:Nat) (H4:zV),a=H3.size->H4=H3.push (.cells #[.bool false] 4)->
 ∃(n:zW) (xw:Int),RowAt H4 (ad b) 0 [.pointer n,.int .u64 xw]/\
 eqtab_table_fresh.C n xw H4 (λ_ H5=>
 ∃(e:zW) (k:Int),RowAt H5 (ad b) 0 [.pointer e,.int .u64 k]/\
 ∃(i:zW) (l:Int),RowAt H5 (ad b) 0 [.pointer i,.int .u64 l]/\
 ∃x:Int,hat H5 (ad f)=some (.int .u64 x)/\
 eqtab_index.C x H5 (λao H6=> ∃ab:Int,ao=.int .i64 ab/\RowAt H6 (ad b) 0 [.pointer e,.int .u64 k]/\RowAt H6 (ad b) 0 [.pointer i,.int .u64 l]/\
 eqtab_table_bucket.C i l ab H6 (λap H7=> ∃ae:Int,ap=.int .u64 ae/\RowAt H7 (ad b) 0 [.pointer e,.int .u64 k]/\
 eqtab_table_pairs.C e k ae H7 (λt H8=>t=t/\
 ∀(rc:LoopState->Option Code->Obj) (lp:Nat) (H9:zV),lp=H8.size+1->H9=(H8.push (.deferred (some []))).push (rc .ready none)->
 ∀vY:Value,(∀(q:Int) (H10:zV) (vRy:zw),H10[lp]?=some (rc .ready none)->
 (H10[lp]?=some (rc .ready none)/\ ∀ag:zV,ag=setBlk H10 lp (rc .busy none)->
 ∃(j:zW) (p:Int),RowAt ag (ad b) 0 [.pointer j,.int .u64 p]/\
 eqtab_table_key.C j p q ag (λan u=> ∃ra rb:Int,an=.tuple #[.int .u64 ra,.int .u64 rb]/\
 ∃s:Int,hat u (ad f)=some (.int .u64 s)/\
 if rb=s then(
 (CanPuts u (ad d) 0 1)/\ ∀aa,aa=hputs u (ad d) [.int .u64 ra] 0->
 (CanPuts aa (ad a) 0 1)/\ ∀af,af=hputs aa (ad a) [.bool true] 0->
 af[lp]?=some (rc .busy none)/\
 vRy (.bool false) (setBlk af lp (rc .done (some .ret))))
 else
 u[lp]?=some (rc .busy none)/\
 vRy (.bool true) (setBlk u lp (rc .ready none))))->
 FC Tryz.prog vY #[.int .u64 q] H10 vRy)->
 FE Tryz.prog t #[vY] H9 (λ_ ac=>
 (ac[lp]?=some (rc .ready none)/\ ∀m:zV,m=setBlk ac lp (rc .exhausted none)->
 (CanPuts m (ad d) 0 1)/\ ∀z,z=hputs m (ad d) [.int .u64 0] 0->
 (CanPuts z (ad a) 0 1)/\ ∀al,al=hputs z (ad a) [.bool false] 0->
 Shut (H8.size::[]) al (λah=>
 ∃r:Int,hat ah (ad d)=some (.int .u64 r)/\
 ∃ai:Bool,hat ah (ad a)=some (.bool ai)/\
 R (.tuple #[.int .u64 r,.bool ai]) ah))\/
 (ac[lp]?=some (rc .done (some .ret))/\ ∀m:zV,m=setBlk ac lp (rc .exhausted (some .ret))->
 Shut (H8.size::[]) m (λaj=>
 ∃am:Int,hat aj (ad d)=some (.int .u64 am)/\
 ∃ak:Bool,hat aj (ad a)=some (.bool ak)/\
 R (.tuple #[.int .u64 am,.bool ak]) aj)))))))
namespace eqtab_table_find
theorem link{o:zW}{tw y:Int}{H:zV}{R:zw}(h:pt o tw y H R):C o tw y H R:=by
 refine T_en K0 28 Tryz.func31 ?_
 intro w0 Q hQ
 unfold pt at h
 refine T_su [(0,.agg #[vp o,vu tw]),(1,vu y)]<| T_srz 0<| T_nw (some 2) (λb=>vp (pa b)) (.cells #[vp o,vu tw] 72) ?_
 intro b H1 e1 e2
 replace h:=h b H1 e1 e2
 refine T_pd [0] [(2,vp (pa b))]<| T_nw (some 3) (λb=>vp (pa b)) (.cells #[vu y] 31) ?_
 intro f H2 e3 e4
 replace h:=h f H2 e3 e4
 refine T_pd [1] [(3,vp (pa f))]<| T_nw (some 4) (λb=>vp (pa b)) (.cells #[vu 0] 31) ?_
 intro d H3 e5 e6
 replace h:=h d H3 e5 e6
 refine T_pd [] [(4,vp (pa d))]<| T_nw (some 5) (λb=>vp (pa b)) (.cells #[.bool false] 4) ?_
 intro a H4 e7 e8
 replace h:=h a H4 e7 e8
 refine T_pd [] [(5,vp (pa a))]<| T_e<| T_srz 1 ?_
 obtain⟨n,xw,q9,h⟩:=h
 refine T_lr 9 72 q9 []<| T_c (some 10) h ?_;clear h
 intro v H5 h
 refine T_pd [9] []<| T_e<| T_sz<| T_sz ?_
 obtain⟨e,k,q10,i,l,q11,x,q12,h⟩:=h
 refine yk 2 (Code.ops K7) [(5,(ad b),[vp e,vu k]),(4,(ad b),[vp i,vu l]),(3,(ad f),[vu x])] 6 (bv 6 0) (show FactsAt _ _ _ from⟨q10,q11,⟨q12,trivial⟩,trivial⟩)<| T_g 0 (some 11) (.agg #[vp e,vu k]) (bv 6 1) [(2,vp (pa b)),(3,vp (pa f)),(4,vp (pa d)),(5,vp (pa a)),(11,.agg #[vp e,vu k])] (loadN 72 (vp (pa b))) (held_row 5 (λ_=>by kernel_rfl) (λ_=>by kernel_rfl) yQ (.inl (by kernel_rfl)))<| T_g1 1 12 (.agg #[vp i,vu l]) (bv 6 3) [] (loadN 72 (vp (pa b))) (held_row 4 (λ_=>by kernel_rfl) (λ_=>by kernel_rfl) yJ (.inl (by kernel_rfl)))<| T_g1 2 13 (vu x) (bv 6 7) [] (loadN 31 (vp (pa f))) (yj 3 yK)<| yv 3 (some 14) (bv 6 15) 33 #[vu x] h ?_;clear h
 rintro ao H6 ⟨ab,rfl,f13,f14,h⟩
 refine⟨[(2,vp (pa b)),(3,vp (pa f)),(4,vp (pa d)),(5,vp (pa a)),(11,.agg #[vp e,vu k]),(12,.agg #[vp i,vu l]),(14,vi ab)],pk,(show FactsAt _ _ _ from⟨f13,f14,trivial,trivial⟩),?_⟩
 refine yv 4 (some 15) (bv 6 31) 35 #[.agg #[vp i,vu l],vi ab] h ?_;clear h
 rintro ap H7 ⟨ae,rfl,f15,h⟩
 refine⟨[(2,vp (pa b)),(3,vp (pa f)),(4,vp (pa d)),(5,vp (pa a)),(11,.agg #[vp e,vu k]),(15,vu ae)],pk,(show FactsAt _ _ _ from⟨f15,trivial,trivial,trivial⟩),?_⟩
 refine yv 5 (some 16) (bv 6 63) 59 #[.agg #[vp e,vu k],vu ae] h ?_;clear h
 rintro t H8 ⟨-,h⟩
 refine⟨[(2,vp (pa b)),(3,vp (pa f)),(4,vp (pa d)),(5,vp (pa a)),(16,t)],pk,(show FactsAt _ _ _ from⟨trivial,trivial,trivial,trivial⟩),?_⟩
 refine G_sub [(2,vp (pa b)),(3,vp (pa f)),(4,vp (pa d)),(5,vp (pa a)),(16,t)] sk ?_
 refine yw<| S_then<| T_bz 0<| S_range (g:=.tmp 16) (ps:= #[17]) (assign:=K10) (body:=K11) (t) (by kernel_rfl) (by kernel_rfl) (by kernel_rfl) ?_
 intro rc lp H9 r16 e17 e18 y19
 refine FE.mono (h rc lp H9 e17 e18 (.func (.yield lp) #[] #[]) ?_) ?_
 ·clear h
  intro q H10 vRy q20 h
  refine y19 #[vu q] H10 vRy (by kernel_rfl) q20 (λw1x=>?_)
  refine T_su [(2,vp (pa b)),(3,vp (pa f)),(4,vp (pa d)),(5,vp (pa a)),(16,t),(17,vu q)]<| T_rz 3<| T_nd 1 [16,17] [(6,vu q)]<| zq ?_
  obtain⟨q22,h⟩:=h
  refine S_then<| S_begin r16 q22 ?_
  intro ag e21
  replace h:=h ag e21
  refine T_bz 1<| T_srz 4 ?_
  obtain⟨j,p,q23,h⟩:=h
  refine T_lr 19 72 q23 [2]<| T_nd 1 [6] [(20,vu q)]<| T_c (some 21) h ?_;clear h
  rintro an u ⟨ra,rb,rfl,h⟩
  refine T_pd [19,20] [(21,.tuple #[vu ra,vu rb])]<| T_ed 5 [21] [(7,vu ra),(8,vu rb)]<| T_srz 5<| T_nd 1 [8] [(24,vu rb)] ?_
  obtain⟨s,q24,h⟩:=h
  refine T_l1 25 31 q24 [3]<| T_ed 1 [24,25] [(26,.bool (rb==s))] ?_
  by_cases c25:rb=s
  ·rw[if_pos c25]at h
   refine T_cTz 26 (zK c25)<| T_srz 6<| T_nd 1 [7,26] [(27,vu ra)] ?_
   obtain⟨q28,h⟩:=h
   refine T_st1 31 (vu ra) q28 ?_
   intro aa e27
   replace h:=h aa e27
   refine T_pd [4,27] [] ?_
   obtain⟨q30,h⟩:=h
   refine T_st1 4 (.bool true) q30 ?_
   intro af e29
   replace h:=h af e29
   refine⟨[],pk,?_⟩
   refine T_e<| zx ?_
   show At _ _ _ _ _ (roundPost _ _ _ .ret)
   obtain⟨q31,h⟩:=h
   exact S_rret r16 q31 h
  rw[if_neg c25]at h
  refine T_cFz 26 (zJ c25)<| T_k<| S_blockEnd ?_
  obtain⟨q32,h⟩:=h
  exact S_rnormal r16 q32 h
 clear h y19
 rintro _ ac (⟨q33,h⟩ | ⟨q33,h⟩)
 ·refine .inl ⟨q33,λm e42=>?_⟩
  replace h:=h m e42
  refine S_marks (H8.size::[]) rfl ?_
  refine T_su [(4,vp (pa d)),(5,vp (pa a))]<| S_blockEnd<| S_then<| T_srz 7 ?_
  obtain⟨q35,h⟩:=h
  refine T_st1 31 (vu 0) q35 ?_
  intro z e34
  replace h:=h z e34
  refine T_pd [] [] ?_
  obtain⟨q37,h⟩:=h
  refine T_st1 4 (.bool false) q37 ?_
  intro al e36
  replace h:=h al e36
  refine T_pd [] []<| T_e<| zx ?_
  show At _ _ _ _ _ (Q .ret)
  refine S_doneM (fn:=Tryz.f31) (H8.size::[]) hQ (Shut.mono (λah h=>?_) h)
  obtain⟨r,q38,ai,q39,h⟩:=h
  exact⟨[vu r,.bool ai],(show ResOK _ _ _ [.cell 4 31,.cell 5 4] _ from .cell (by kernel_rfl) (loadOK_one (λ_=>by kernel_rfl) q38) (.cell (by kernel_rfl) (loadOK_one (λ_=>by kernel_rfl) q39) (.nil))),h⟩
 refine .inr ⟨_,q33,λm e42=>?_⟩
 replace h:=h m e42
 refine S_marks (H8.size::[]) rfl ?_
 refine T_su [(4,vp (pa d)),(5,vp (pa a))]<| S_ret rfl ?_
 show At _ _ _ _ _ (Q .ret)
 refine S_doneM (fn:=Tryz.f31) (H8.size::[]) hQ (Shut.mono (λaj h=>?_) h)
 obtain⟨am,q40,ak,q41,h⟩:=h
 exact⟨[vu am,.bool ak],(show ResOK _ _ _ [.cell 4 31,.cell 5 4] _ from .cell (by kernel_rfl) (loadOK_one (λ_=>by kernel_rfl) q40) (.cell (by kernel_rfl) (loadOK_one (λ_=>by kernel_rfl) q41) (.nil))),h⟩
end eqtab_table_find

/-! moraine/eqtab.index -/
namespace eqtab_index
def K0:=Func.code Tryz.f33
end eqtab_index
def eqtab_index.pt(a:Int)(H:zV)(R:zw):Prop:=
 R (.int .i64 (zY (Int.tmod (ishr .u64 a 3) 31))) H
namespace eqtab_index
theorem link{a:Int}{H:zV}{R:zw}(h:pt a H R):C a H R:=by
 refine T_en K0 7 Tryz.func33 ?_
 intro w0 Q hQ
 unfold pt zY at h
 exact T_su [(0,vu a)]<| T_srz 0<| T_ed 1 [] []<| T_srz 1<| T_nr 5 [2] [vi (zY (Int.tmod (ishr .u64 a 3) 31))] hQ h
end eqtab_index

/-! (moraine/eqtab.table).get -/
namespace eqtab_table_get
def K0:=Func.code Tryz.f34
end eqtab_table_get
def eqtab_table_get.pt(a:zW)(tw i:Int)(H:zV)(R:zw):Prop:=
 ∀(b:Nat) (H1:zV),b=H.size->H1=H.push (.cells #[.pointer a,.int .u64 tw] 72)->
 ∃x:zW,hat H1 (ad b)=some (.pointer x)/\
 ∃d:Int,hat H1 ((ad b).add 1)=some (.int .u64 d)/\
 obj_Heap_Get.C x d 11 i H1 (λv H2=> ∃ra rb:Int,v=.tuple #[.int .u64 ra,.int .i64 rb]/\
 R (.int .u64 ra) H2)
namespace eqtab_table_get
theorem link{a:zW}{tw i:Int}{H:zV}{R:zw}(h:pt a tw i H R):C a tw i H R:=by
 refine T_en K0 17 Tryz.func34 ?_
 intro w0 Q hQ
 unfold pt at h
 refine T_su [(0,.agg #[vp a,vu tw]),(1,vi i)]<| T_srz 0<| T_nw (some 2) (λb=>vp (pa b)) (.cells #[vp a,vu tw] 72) ?_
 intro b H1 e1 e2
 replace h:=h b H1 e1 e2
 refine T_pd [0] [(2,vp (pa b))]<| T_ed 1 [] []<| T_srz 1<| T_nd 1 [] [(8,vp (pa b))] ?_
 obtain⟨x,q3,h⟩:=h
 refine T_l1 9 34 q3 [8]<| T_nd 1 [2] [(10,vp (some ((ad b).add 1)))] ?_
 obtain⟨d,q4,h⟩:=h
 refine T_l1 11 31 q4 [10]<| T_nd 1 [1] [(12,vi i)]<| T_c (some 13) h ?_;clear h
 rintro v H2 ⟨ra,rb,rfl,h⟩
 refine⟨[(13,.tuple #[vu ra,vi rb])],pk,?_⟩
 exact T_ne 5 [(5,vu ra)]<| T_srz 2<| T_nr 2 [4] [vu ra] hQ h
end eqtab_table_get

/-! (moraine/eqtab.table).bucket -/
namespace eqtab_table_bucket
def K0:=Func.code Tryz.f35
def K2:=cb K0
def K3:=ca K2
end eqtab_table_bucket
def eqtab_table_bucket.pt(d:zW)(tw i:Int)(H:zV)(R:zw):Prop:=
 ∀(b:Nat) (H1:zV),b=H.size->H1=H.push (.cells #[.pointer d,.int .u64 tw] 72)->
 ∃x:zW,hat H1 (ad b)=some (.pointer x)/\
 ∃(a:zW) (xw:Int),RowAt H1 (ad b) 0 [.pointer a,.int .u64 xw]/\
 eqtab_table_get.C a xw 2 H1 (λv H2=> ∃e:Int,v=.int .u64 e/\RowAt H2 (ad b) 0 [.pointer x]/\
 obj_Heap_Get.C x e 1 i H2 (λf H3=> ∃ra rb:Int,f=.tuple #[.int .u64 ra,.int .i64 rb]/\
 R (.int .u64 ra) H3))
namespace eqtab_table_bucket
theorem link{d:zW}{tw i:Int}{H:zV}{R:zw}(h:pt d tw i H R):C d tw i H R:=by
 refine T_en K0 17 Tryz.func35 ?_
 intro w0 Q hQ
 unfold pt at h
 refine T_su [(0,.agg #[vp d,vu tw]),(1,vi i)]<| T_srz 0<| T_nw (some 2) (λb=>vp (pa b)) (.cells #[vp d,vu tw] 72) ?_
 intro b H1 e1 e2
 replace h:=h b H1 e1 e2
 refine T_pd [0] [(2,vp (pa b))]<| T_ed 1 [] []<| T_sz ?_
 obtain⟨x,q3,a,xw,q4,h⟩:=h
 refine yk 1 (Code.ops K3) [(5,(ad b),[vp x]),(3,(ad b),[vp a,vu xw])] 11 (bv 11 0) (show FactsAt _ _ _ from⟨⟨q3,trivial⟩,q4,trivial⟩)<| T_gp 0 (some 8) (vp (pa b)) (bv 11 1) [(1,vi i),(2,vp (pa b)),(8,vp (pa b))]<| T_g1 1 9 (vp x) (bv 11 3) [8] (loadN 34 (vp (pa b))) (yj 5 yQ)<| T_g1 2 10 (.agg #[vp a,vu xw]) (bv 11 7) [2] (loadN 72 (vp (pa b))) (held_row 3 (λ_=>by kernel_rfl) (λ_=>by kernel_rfl) yJ (.inl (by kernel_rfl)))<| T_gp1 4 12 (vi i) (bv 11 23) [1]<| yv 3 (some 11) (bv 11 31) 34 #[.agg #[vp a,vu xw],vi 2] h ?_;clear h
 rintro v H2 ⟨e,rfl,f5,h⟩
 refine⟨[(9,vp x),(11,vu e),(12,vi i)],pk,(show FactsAt _ _ _ from⟨f5,trivial,trivial⟩),?_⟩
 refine yv 5 (some 13) (bv 11 63) 62 #[vp x,vu e,vi 1,vi i] h ?_;clear h
 rintro f H3 ⟨ra,rb,rfl,h⟩
 refine⟨[(13,.tuple #[vu ra,vi rb])],pk,(show FactsAt _ _ _ from⟨trivial,trivial,trivial⟩),?_⟩
 exact T_g 6 (some 7) (.tuple #[vu ra,vi rb]) (bv 11 127) [(7,.tuple #[vu ra,vi rb])] (pure (.value (.tuple #[vu ra,vi rb])):Sem Next) (λ_ _ _ _ _=>rfl)<| T_g1 7 14 (vu ra) (bv 11 255) [] (pure (.value (vu ra)):Sem Next) (λ_ _ _ _ _=>rfl)<| T_g1 8 15 (vi rb) (bv 11 511) [7] (pure (.value (vi rb)):Sem Next) (λ_ _ _ _ _=>rfl)<| T_g1 9 5 (vu ra) (bv 11 1023) [14] (pure (.value (vu ra)):Sem Next) (λ_ _ _ _ _=>rfl)<| T_gd 10 (some 6) (vi rb) (bv 11 2047) [15] [] (pure (.value (vi rb)):Sem Next) (λ_ _ _ _ _=>rfl)<| G_sub [(5,vu ra)] sk<| yw<| S_then<| T_srz 2<| T_nr 2 [4] [vu ra] hQ h
end eqtab_table_bucket

/-! (moraine/eqtab.table).set -/
namespace eqtab_table_set
def K0:=Func.code Tryz.f37
end eqtab_table_set
def eqtab_table_set.pt(a:zW)(tw i v:Int)(H:zV)(R:zw):Prop:=
 ∀(b:Nat) (H1:zV),b=H.size->H1=H.push (.cells #[.pointer a,.int .u64 tw] 72)->
 ∃x:zW,hat H1 (ad b)=some (.pointer x)/\
 ∃d:Int,hat H1 ((ad b).add 1)=some (.int .u64 d)/\
 obj_Heap_Set.C x d 11 i v H1 (λe H2=> ∃f:Int,e=.int .i64 f/\
 R (.tuple #[]) H2)
namespace eqtab_table_set
theorem link{a:zW}{tw i v:Int}{H:zV}{R:zw}(h:pt a tw i v H R):C a tw i v H R:=by
 refine T_en K0 13 Tryz.func37 ?_
 intro w0 Q hQ
 unfold pt at h
 refine T_su [(0,.agg #[vp a,vu tw]),(1,vi i),(2,vu v)]<| T_srz 0<| T_nw (some 3) (λb=>vp (pa b)) (.cells #[vp a,vu tw] 72) ?_
 intro b H1 e1 e2
 replace h:=h b H1 e1 e2
 refine T_pd [0] [(3,vp (pa b))]<| T_e<| T_rz 1<| T_nd 1 [] [(6,vp (pa b))] ?_
 obtain⟨x,q3,h⟩:=h
 refine T_l1 7 34 q3 [6]<| T_nd 1 [3] [(8,vp (some ((ad b).add 1)))] ?_
 obtain⟨d,q4,h⟩:=h
 refine T_l1 9 31 q4 [8]<| T_nd 2 [1,2] [(10,vi i),(11,vu v)]<| T_c (some 12) h ?_;clear h
 rintro e H2 ⟨f,rfl,h⟩
 refine⟨[],pk,?_⟩
 exact zq<| S_doneN (fn:=Tryz.f37) [] hQ (show ResOK _ _ _ [] _ from .nil) h
end eqtab_table_set

/-! moraine/eqtab.fix -/
namespace eqtab_fix
def K0:=Func.code Tryz.f38
end eqtab_fix
def eqtab_fix.pt(nv:Int)(H:zV)(R:zw):Prop:=
 word_Fix.C nv H (λv H1=> ∃ra rb:Int,v=.tuple #[.int .u64 ra,.int .i64 rb]/\
 R (.int .u64 ra) H1)
namespace eqtab_fix
theorem link{nv:Int}{H:zV}{R:zw}(h:pt nv H R):C nv H R:=by
 refine T_en K0 11 Tryz.func38 ?_
 intro w0 Q hQ
 unfold pt at h
 refine T_su [(0,vi nv)]<| T_srz 0<| T_ed 1 [] []<| T_srz 1<| T_n 1 [(6,vi nv)]<| T_c (some 7) h ?_;clear h
 rintro v H1 ⟨ra,rb,rfl,h⟩
 refine⟨[(7,.tuple #[vu ra,vi rb])],pk,?_⟩
 exact T_ne 5 [(3,vu ra)]<| T_srz 2<| T_nr 2 [2] [vu ra] hQ h
end eqtab_fix

/-! (moraine/eqtab.table).setBucket -/
namespace eqtab_table_setBucket
def K0:=Func.code Tryz.f39
def K2:=cb K0
end eqtab_table_setBucket
def eqtab_table_setBucket.pt(d:zW)(tw i l:Int)(H:zV)(R:zw):Prop:=
 ∀(b:Nat) (H1:zV),b=H.size->H1=H.push (.cells #[.pointer d,.int .u64 tw] 72)->
 ∃x:zW,hat H1 (ad b)=some (.pointer x)/\
 ∃(a:zW) (xw:Int),RowAt H1 (ad b) 0 [.pointer a,.int .u64 xw]/\
 eqtab_table_get.C a xw 2 H1 (λv H2=> ∃e:Int,v=.int .u64 e/\RowAt H2 (ad b) 0 [.pointer x]/\
 obj_Heap_Set.C x e 1 i l H2 (λf H3=> ∃g:Int,f=.int .i64 g/\
 R (.tuple #[]) H3))
namespace eqtab_table_setBucket
theorem link{d:zW}{tw i l:Int}{H:zV}{R:zw}(h:pt d tw i l H R):C d tw i l H R:=by
 refine T_en K0 13 Tryz.func39 ?_
 intro w0 Q hQ
 unfold pt at h
 refine T_su [(0,.agg #[vp d,vu tw]),(1,vi i),(2,vu l)]<| T_srz 0<| T_nw (some 3) (λb=>vp (pa b)) (.cells #[vp d,vu tw] 72) ?_
 intro b H1 e1 e2
 replace h:=h b H1 e1 e2
 refine T_pd [0] [(3,vp (pa b))]<| T_e ?_
 obtain⟨x,q3,a,xw,q4,h⟩:=h
 refine yk 1 (Code.ops K2) [(6,(ad b),[vp x]),(3,(ad b),[vp a,vu xw])] 7 (bv 7 0) (show FactsAt _ _ _ from⟨⟨q3,trivial⟩,q4,trivial⟩)<| T_gp 0 (some 6) (vp (pa b)) (bv 7 1) [(1,vi i),(2,vu l),(3,vp (pa b)),(6,vp (pa b))]<| T_g1 1 7 (vp x) (bv 7 3) [6] (loadN 34 (vp (pa b))) (yj 6 yQ)<| T_g1 2 8 (.agg #[vp a,vu xw]) (bv 7 7) [3] (loadN 72 (vp (pa b))) (held_row 3 (λ_=>by kernel_rfl) (λ_=>by kernel_rfl) yJ (.inl (by kernel_rfl)))<| T_gp1 4 10 (vi i) (bv 7 23) [1]<| T_gp1 5 11 (vu l) (bv 7 55) [2]<| yv 3 (some 9) (bv 7 63) 34 #[.agg #[vp a,vu xw],vi 2] h ?_;clear h
 rintro v H2 ⟨e,rfl,f5,h⟩
 refine⟨[(7,vp x),(9,vu e),(10,vi i),(11,vu l)],pk,(show FactsAt _ _ _ from⟨f5,trivial,trivial⟩),?_⟩
 refine yv 6 (some 12) (bv 7 127) 64 #[vp x,vu e,vi 1,vi i,vu l] h ?_;clear h
 rintro f H3 ⟨g,rfl,h⟩
 refine⟨[],pk,(show FactsAt _ _ _ from⟨trivial,trivial,trivial⟩),?_⟩
 refine G_sub [] sk ?_
 exact yw<| S_doneN (fn:=Tryz.f39) [] hQ (show ResOK _ _ _ [] _ from .nil) h
end eqtab_table_setBucket

/-! (moraine/eqtab.table).without -/
namespace eqtab_table_without
def K0:=Func.code Tryz.f42
def K2:=cb K0
def K4:=cb K2
def K5:=ca K4
def K8:=cb K5
def K9:=ca K8
def K10:=ca K9
def K11:=cb K9
end eqtab_table_without
def eqtab_table_without.pt(o:zW)(tw l n:Int)(H:zV)(R:zw):Prop:=
 ∀(b:Nat) (H1:zV),b=H.size->H1=H.push (.cells #[.pointer o,.int .u64 tw] 72)->
 ∀(i:Nat) (H2:zV),i=H1.size->H2=H1.push (.cells #[.int .u64 n] 31)->
 ∀(a:Nat) (H3:zV),a=H2.size->H3=H2.push (.cells #[.int .u64 0] 31)->
 ∀(d:Nat) (H4:zV),d=H3.size->H4=H3.push (.cells #[.int .u64 0] 31)->
 ∃(m:zW) (xw:Int),RowAt H4 (ad b) 0 [.pointer m,.int .u64 xw]/\
 eqtab_table_pairs.C m xw l H4 (λv H5=>v=v/\
 ∀(rc:LoopState->Option Code->Obj) (lp:Nat) (H6:zV),lp=H5.size+1->H6=(H5.push (.deferred (some []))).push (rc .ready none)->
 ∀vY:Value,(∀(e:Int) (H7:zV) (vRy:zw),H7[lp]?=some (rc .ready none)->
 (H7[lp]?=some (rc .ready none)/\ ∀H8:zV,H8=setBlk H7 lp (rc .busy none)->
 ∃aa:zW,hat H8 (ad b)=some (.pointer aa)/\
 obj_Heap_Car.C aa e H8 (λaq H9=> ∃ra rb:Int,aq=.tuple #[.int .u64 ra,.int .i64 rb]/\
 ∃s:Int,hat H9 (ad i)=some (.int .u64 s)/\
 if ra=s then(
 ∃y:zW,hat H9 (ad b)=some (.pointer y)/\
 obj_Heap_Cdr.C y e H9 (λau al=> ∃f ae:Int,au=.tuple #[.int .u64 f,.int .i64 ae]/\
 ∃(k:zW) (p:Int),RowAt al (ad b) 0 [.pointer k,.int .u64 p]/\
 eqtab_table_clear.C k p e al (λ_ u=>
 ∃q:Int,hat u (ad d)=some (.int .u64 q)/\
 if q=0 then(
 (CanPuts u (ad a) 0 1)/\ ∀ac,ac=hputs u (ad a) [.int .u64 f] 0->
 ac[lp]?=some (rc .busy none)/\
 vRy (.bool false) (setBlk ac lp (rc .done (some .ret))))
 else
 ∃t:zW,hat u (ad b)=some (.pointer t)/\
 ∃z:Int,hat u (ad d)=some (.int .u64 z)/\
 obj_Heap_SetCdr.C t z f u (λap ak=> ∃ao:Int,ap=.int .i64 ao/\
 ak[lp]?=some (rc .busy none)/\
 vRy (.bool false) (setBlk ak lp (rc .done (some (.exit 0))))))))
 else
 (CanPuts H9 (ad d) 0 1)/\ ∀ab,ab=hputs H9 (ad d) [.int .u64 e] 0->
 ab[lp]?=some (rc .busy none)/\
 vRy (.bool true) (setBlk ab lp (rc .ready none))))->
 FC Tryz.prog vY #[.int .u64 e] H7 vRy)->
 FE Tryz.prog v #[vY] H6 (λ_ x=>
 (x[lp]?=some (rc .ready none)/\ ∀j:zV,j=setBlk x lp (rc .exhausted none)->
 (CanPuts j (ad a) 0 1)/\ ∀af,af=hputs j (ad a) [.int .u64 l] 0->
 Shut (H5.size::[]) af (λan=>
 ∃r:Int,hat an (ad a)=some (.int .u64 r)/\
 R (.int .u64 r) an))\/
 (x[lp]?=some (rc .done (some .ret))/\ ∀j:zV,j=setBlk x lp (rc .exhausted (some .ret))->
 Shut (H5.size::[]) j (λaj=>
 ∃ag:Int,hat aj (ad a)=some (.int .u64 ag)/\
 R (.int .u64 ag) aj))\/
 (x[lp]?=some (rc .done (some (.exit 0)))/\ ∀j:zV,j=setBlk x lp (rc .exhausted (some (.exit 0)))->
 (CanPuts j (ad a) 0 1)/\ ∀ah,ah=hputs j (ad a) [.int .u64 l] 0->
 Shut (H5.size::[]) ah (λam=>
 ∃ai:Int,hat am (ad a)=some (.int .u64 ai)/\
 R (.int .u64 ai) am))))
namespace eqtab_table_without
theorem link{o:zW}{tw l n:Int}{H:zV}{R:zw}(h:pt o tw l n H R):C o tw l n H R:=by
 refine T_en K0 47 Tryz.func42 ?_
 intro w0 Q hQ
 unfold pt at h
 refine T_su [(0,.agg #[vp o,vu tw]),(1,vu l),(2,vu n)]<| T_srz 0<| T_nw (some 3) (λb=>vp (pa b)) (.cells #[vp o,vu tw] 72) ?_
 intro b H1 e1 e2
 replace h:=h b H1 e1 e2
 refine T_pd [0] [(3,vp (pa b))]<| T_nw (some 5) (λb=>vp (pa b)) (.cells #[vu n] 31) ?_
 intro i H2 e3 e4
 replace h:=h i H2 e3 e4
 refine T_pd [2] [(5,vp (pa i))]<| T_nw (some 6) (λb=>vp (pa b)) (.cells #[vu 0] 31) ?_
 intro a H3 e5 e6
 replace h:=h a H3 e5 e6
 refine T_pd [] [(6,vp (pa a))]<| T_e<| T_srz 1<| T_nw (some 7) (λb=>vp (pa b)) (.cells #[vu 0] 31) ?_
 intro d H4 e7 e8
 replace h:=h d H4 e7 e8
 refine T_pd [] [(7,vp (pa d))]<| T_e<| T_sz<| T_srz 2 ?_
 obtain⟨m,xw,q9,h⟩:=h
 refine T_lr 13 72 q9 []<| T_nd 1 [] [(14,vu l)]<| T_c (some 15) h ?_;clear h
 rintro v H5 ⟨-,h⟩
 refine T_pd [13,14] [(15,v)]<| T_e<| T_bz 0<| S_range (g:=.tmp 15) (ps:= #[16]) (assign:=K10) (body:=K11) (v) (by kernel_rfl) (by kernel_rfl) (by kernel_rfl) ?_
 intro rc lp H6 r10 e11 e12 y13
 refine FE.mono (h rc lp H6 e11 e12 (.func (.yield lp) #[] #[]) ?_) ?_
 ·clear h
  intro e H7 vRy q14 h
  refine y13 #[vu e] H7 vRy (by kernel_rfl) q14 (λw1x=>?_)
  refine T_sd [] [(16,vu e)]<| T_rz 3<| T_nd 1 [1,15,16] [(8,vu e)]<| zq ?_
  obtain⟨q16,h⟩:=h
  refine S_then<| S_begin r10 q16 ?_
  intro H8 e15
  replace h:=h H8 e15
  refine T_bz 1<| T_srz 4<| T_nd 1 [] [(18,vp (pa b))] ?_
  obtain⟨aa,q17,h⟩:=h
  refine T_l1 19 34 q17 [18]<| T_nd 1 [] [(20,vu e)]<| T_c (some 21) h ?_;clear h
  rintro aq H9 ⟨ra,rb,rfl,h⟩
  refine T_pd [19,20] [(21,.tuple #[vu ra,vi rb])]<| T_ed 5 [21] [(9,vu ra)]<| T_sz<| T_srz 5<| T_nd 1 [9] [(24,vu ra)] ?_
  obtain⟨s,q18,h⟩:=h
  refine T_l1 25 31 q18 [5]<| T_ed 1 [24,25] [(26,.bool (ra !=s))] ?_
  by_cases c19:ra=s
  ·rw[if_pos c19]at h
   refine T_cFz 26 (bne_eq_false_iff_eq.mpr c19)<| T_kt<| T_srz 7<| T_nd 1 [26] [(29,vp (pa b))] ?_
   obtain⟨y,q21,h⟩:=h
   refine T_l1 30 34 q21 [29]<| T_nd 1 [] [(31,vu e)]<| T_c (some 32) h ?_;clear h
   rintro au al ⟨f,ae,rfl,h⟩
   refine T_pd [30,31] [(32,.tuple #[vu f,vi ae])]<| T_ed 5 [32] [(11,vu f)]<| T_srz 8 ?_
   obtain⟨k,p,q22,h⟩:=h
   refine T_lr 35 72 q22 []<| T_nd 1 [8] [(36,vu e)]<| T_c (some 37) h ?_;clear h
   intro v_4 u h
   refine T_pd [35,36] []<| T_e<| T_sz<| T_srz 9 ?_
   obtain⟨q,q23,h⟩:=h
   refine T_l1 38 31 q23 []<| T_ed 1 [38] [(39,.bool (q==0))] ?_
   by_cases c24:q=0
   ·rw[if_pos c24]at h
    refine T_cTz 39 (zK c24)<| T_srz 10<| T_n 1 [(6,vp (pa a)),(40,vu f)] ?_
    obtain⟨q27,h⟩:=h
    refine T_st1 31 (vu f) q27 ?_
    intro ac e26
    replace h:=h ac e26
    refine⟨[],pk,?_⟩
    refine T_e<| zx ?_
    show At _ _ _ _ _ (roundPost _ _ _ .ret)
    obtain⟨q28,h⟩:=h
    exact S_rret r10 q28 h
   rw[if_neg c24]at h
   refine T_cFz 39 (zJ c24)<| T_kt<| T_srz 11<| T_nd 1 [3,6,39] [(41,vp (pa b))] ?_
   obtain⟨t,q29,h⟩:=h
   refine T_l1 42 34 q29 [41] ?_
   obtain⟨z,q30,h⟩:=h
   refine T_l1 43 31 q30 [7]<| T_nd 1 [11] [(44,vu f)]<| T_c (some 45) h ?_;clear h
   rintro ap ak ⟨ao,rfl,h⟩
   refine⟨[],pk,?_⟩
   refine T_e<| zj 0<| zz ?_
   obtain⟨q31,h⟩:=h
   exact S_rexit r10 q31 h
  rw[if_neg c19]at h
  refine T_cTz 26 (bne_iff_ne.mpr c19)<| T_srz 6<| T_n 1 [(7,vp (pa d)),(27,vu e)] ?_
  obtain⟨q33,h⟩:=h
  refine T_st1 31 (vu e) q33 ?_
  intro ab e32
  replace h:=h ab e32
  refine⟨[],pk,?_⟩
  refine T_e<| zj 1<| S_exitThen<| S_exitHere ?_
  obtain⟨q34,h⟩:=h
  exact S_rnormal r10 q34 h
 clear h y13
 rintro _ x (⟨q35,h⟩ | ⟨q35,h⟩ | ⟨q35,h⟩)
 ·refine .inl ⟨q35,λj e43=>?_⟩
  replace h:=h j e43
  refine S_marks (H5.size::[]) rfl ?_
  refine T_sd [3,5,7,15] []<| S_blockEnd<| S_then<| T_srz 12<| T_nd 1 [1] [(46,vu l)] ?_
  obtain⟨q37,h⟩:=h
  refine T_st1 31 (vu l) q37 ?_
  intro af e36
  replace h:=h af e36
  refine T_pd [46] []<| T_e<| zx ?_
  show At _ _ _ _ _ (Q .ret)
  refine S_doneM (fn:=Tryz.f42) (H5.size::[]) hQ (Shut.mono (λan h=>?_) h)
  obtain⟨r,q38,h⟩:=h
  exact⟨[vu r],(show ResOK _ _ _ [.cell 6 31] _ from .cell (by kernel_rfl) (loadOK_one (λ_=>by kernel_rfl) q38) (.nil)),h⟩
 ·refine .inr ⟨_,q35,λj e43=>?_⟩
  replace h:=h j e43
  refine S_marks (H5.size::[]) rfl ?_
  refine T_sd [3,5,7,15] []<| S_ret rfl ?_
  show At _ _ _ _ _ (Q .ret)
  refine S_doneM (fn:=Tryz.f42) (H5.size::[]) hQ (Shut.mono (λaj h=>?_) h)
  obtain⟨ag,q39,h⟩:=h
  exact⟨[vu ag],(show ResOK _ _ _ [.cell 6 31] _ from .cell (by kernel_rfl) (loadOK_one (λ_=>by kernel_rfl) q39) (.nil)),h⟩
 refine .inr ⟨_,q35,λj e43=>?_⟩
 replace h:=h j e43
 refine S_marks (H5.size::[]) rfl ?_
 refine T_sd [3,5,7,15] []<| S_exit 0 rfl<| S_exitHere<| S_then<| T_srz 12<| T_nd 1 [1] [(46,vu l)] ?_
 obtain⟨q41,h⟩:=h
 refine T_st1 31 (vu l) q41 ?_
 intro ah e40
 replace h:=h ah e40
 refine T_pd [46] []<| T_e<| zx ?_
 show At _ _ _ _ _ (Q .ret)
 refine S_doneM (fn:=Tryz.f42) (H5.size::[]) hQ (Shut.mono (λam h=>?_) h)
 obtain⟨ai,q42,h⟩:=h
 exact⟨[vu ai],(show ResOK _ _ _ [.cell 6 31] _ from .cell (by kernel_rfl) (loadOK_one (λ_=>by kernel_rfl) q42) (.nil)),h⟩
end eqtab_table_without

/-! (moraine/eqtab.table).clear -/
namespace eqtab_table_clear
def K0:=Func.code Tryz.f43
end eqtab_table_clear
def eqtab_table_clear.pt(a:zW)(tw p:Int)(H:zV)(R:zw):Prop:=
 ∀(b:Nat) (H1:zV),b=H.size->H1=H.push (.cells #[.pointer a,.int .u64 tw] 72)->
 ∃x:zW,hat H1 (ad b)=some (.pointer x)/\
 obj_Heap_SetCar.C x p 20 H1 (λv H2=> ∃f:Int,v=.int .i64 f/\
 ∃d:zW,hat H2 (ad b)=some (.pointer d)/\
 obj_Heap_SetCdr.C d p 20 H2 (λg H3=> ∃e:Int,g=.int .i64 e/\
 R (.tuple #[]) H3))
namespace eqtab_table_clear
theorem link{a:zW}{tw p:Int}{H:zV}{R:zw}(h:pt a tw p H R):C a tw p H R:=by
 refine T_en K0 12 Tryz.func43 ?_
 intro w0 Q hQ
 unfold pt at h
 refine T_su [(0,.agg #[vp a,vu tw]),(1,vu p)]<| T_srz 0<| T_nw (some 2) (λb=>vp (pa b)) (.cells #[vp a,vu tw] 72) ?_
 intro b H1 e1 e2
 replace h:=h b H1 e1 e2
 refine T_pd [0] [(2,vp (pa b))]<| T_e<| T_srz 1<| T_nd 1 [] [(4,vp (pa b))] ?_
 obtain⟨x,q3,h⟩:=h
 refine T_l1 5 34 q3 [4]<| T_nd 1 [] [(6,vu p)]<| T_c (some 7) h ?_;clear h
 rintro v H2 ⟨f,rfl,h⟩
 refine T_pd [5,6] []<| T_e<| T_rz 2<| T_nd 1 [2] [(8,vp (pa b))] ?_
 obtain⟨d,q4,h⟩:=h
 refine T_l1 9 34 q4 [8]<| T_nd 1 [1] [(10,vu p)]<| T_c (some 11) h ?_;clear h
 rintro g H3 ⟨e,rfl,h⟩
 refine⟨[],pk,?_⟩
 exact zq<| S_doneN (fn:=Tryz.f43) [] hQ (show ResOK _ _ _ [] _ from .nil) h
end eqtab_table_clear

/-! moraine/eqtab.told -/
namespace eqtab_told
def K0:=Func.code Tryz.f44
def K2:=cb K0
def K4:=cb K2
def K6:=cb K4
def K12:=cb K6
def K13:=ca K12
def K15:=ca K13
def K16:=cb K13
def K17:=ca K16
def K18:=ca K17
def K19:=cb K17
end eqtab_told
def eqtab_told.pt(hv:zW)(tv:Int)(y:Value)(H:zV)(R:zw):Prop:=
 ∃(k:FuncId) (tellsC:Array Value),y=.func (.func k) #[] tellsC/\
 ∀(b:Nat) (H1:zV),b=H.size->H1=H.push (.cells #[.pointer hv] 34)->
 ∀(d:Nat) (H2:zV),d=H1.size->H2=H1.push (.cells #[(.func (.func k) #[] tellsC)] 88)->
 ∃x:zW,hat H2 (ad b)=some (.pointer x)/\
 eqtab_open.C x tv H2 (λv H3=> ∃(f:zW) (p rb:Int),v=.tuple #[.agg #[.pointer f,.int .u64 p],.int .i64 rb]/\
 ∀(e:Nat) (H4:zV),e=H3.size->H4=H3.push (.cells #[.pointer none,.int .u64 0] 72)->
 (CanPuts H4 (ad e) 0 2)/\ ∀H5,H5=hputs H4 (ad e) [.pointer f,.int .u64 p] 0->
 if rb=0 then(
 ∀(a:Nat) (H6:zV),a=H5.size->H6=H5.push (.cells #[.slice none 0 0] 54)->
 ∃(j:zW) (xw:Int),RowAt H6 (ad e) 0 [.pointer j,.int .u64 xw]/\
 ∃(i:zW) (o:Int),RowAt H6 (ad e) 0 [.pointer i,.int .u64 o]/\
 eqtab_table_get.C i o 1 H6 (λav H7=> ∃af:Int,av=.int .u64 af/\RowAt H7 (ad e) 0 [.pointer j,.int .u64 xw]/\
 eqtab_table_pairs.C j xw af H7 (λu H8=>u=u/\
 ∀(rc:LoopState->Option Code->Obj) (lp:Nat) (H9:zV),lp=H8.size+1->H9=(H8.push (.deferred (some []))).push (rc .ready none)->
 ∀vY:Value,(∀(q:Int) (H10:zV) (vRy:zw),H10[lp]?=some (rc .ready none)->
 (H10[lp]?=some (rc .ready none)/\ ∀ah:zV,ah=setBlk H10 lp (rc .busy none)->
 ∃z:zW,hat ah (ad b)=some (.pointer z)/\
 obj_Heap_Car.C z q ah (λaq an=> ∃ra ai:Int,aq=.tuple #[.int .u64 ra,.int .i64 ai]/\
 ∃aa:Value,hat an (ad d)=some (aa)/\
 FC Tryz.prog aa #[.int .u64 ra] an (λao ak=> ∃xa xb:Int,ao=.tuple #[.int .u64 xa,.int .i64 xb]/\
 ∃(xB:zW) (xN xC:Nat),hat ak (ad a)=some (.slice xB xN xC)/\
 ∀(ab:Nat) (H14:zV),ab=ak.size->H14=ak.push (.cells #[.int .u64 xa] 31)->
 appendK 1 31 8 [.int .u64 0] xB xN xC (some (ad ab)) 1 H14 (λap ac aj=>
 (CanPuts aj (ad a) 0 1)/\ ∀ae,ae=hputs aj (ad a) [.slice ap (xN+1) ac] 0->
 ae[lp]?=some (rc .busy none)/\
 vRy (.bool true) (setBlk ae lp (rc .ready none))))))->
 FC Tryz.prog vY #[.int .u64 q] H10 vRy)->
 FE Tryz.prog u #[vY] H9 (λ_ al=>
 (al[lp]?=some (rc .ready none)/\ ∀ag:zV,ag=setBlk al lp (rc .exhausted none)->
 ∃(s:zW) (r t:Nat),hat ag (ad a)=some (.slice s r t)/\
 slices_Reverse_api_Word_api_Word.C s r t ag (λ_ am=>
 ∃(n:zW) (l m:Nat),hat am (ad a)=some (.slice n l m)/\
 Shut (H8.size::[]) am (λau=>
 R (.tuple #[.slice n l m,.int .i64 0]) au)))))))
 else
 R (.tuple #[.slice none 0 0,.int .i64 rb]) H5)
namespace eqtab_told
theorem link{hv:zW}{tv:Int}{y:Value}{H:zV}{R:zw}(h:pt hv tv y H R):C hv tv y H R:=by
 refine T_en K0 49 Tryz.func44 ?_
 intro w0 Q hQ
 unfold pt at h
 obtain⟨k,tellsC,rfl,h⟩:=h
 refine T_su [(0,vp hv),(1,vu tv),(2,(.func (.func k) #[] tellsC))]<| T_srz 0<| T_nw (some 3) (λb=>vp (pa b)) (.cells #[vp hv] 34) ?_
 intro b H1 e1 e2
 replace h:=h b H1 e1 e2
 refine T_pd [0] [(3,vp (pa b))]<| T_nw (some 5) (λb=>vp (pa b)) (.cells #[(.func (.func k) #[] tellsC)] 88) ?_
 intro d H2 e3 e4
 replace h:=h d H2 e3 e4
 refine⟨[(1,vu tv),(3,vp (pa b)),(5,vp (pa d))],pk,?_⟩
 refine T_ed 2 [] []<| T_srz 1 ?_
 obtain⟨x,q5,h⟩:=h
 refine T_l1 17 34 q5 []<| T_nd 1 [1] [(18,vu tv)]<| T_c (some 19) h ?_;clear h
 rintro v H3 ⟨f,p,rb,rfl,h⟩
 refine T_pd [17,18] [(19,.tuple #[.agg #[vp f,vu p],vi rb])]<| T_nd 3 [19] [(20,.agg #[vp f,vu p]),(21,vi rb)]<| T_nw (some 8) (λb=>vp (pa b)) (.cells #[vp none,vu 0] 72) ?_
 intro e H4 e6 e7
 replace h:=h e H4 e6 e7
 refine T_pd [] [(8,vp (pa e))] ?_
 obtain⟨q9,h⟩:=h
 refine T_sta 72 [vp f,vu p] q9 ?_
 intro H5 e8
 replace h:=h H5 e8
 refine T_pd [20] []<| T_ed 1 [21] [(9,vi rb)]<| T_sz<| T_srz 2<| T_ed 2 [] [(23,.bool (rb !=0))] ?_
 by_cases c10:rb=0
 ·rw[if_pos c10]at h
  refine T_cFz 23 (bne_eq_false_iff_eq.mpr c10)<| T_kt<| T_srz 4<| T_ud [9,23] []<| T_nw (some 10) (λb=>vp (pa b)) (.cells #[vs none 0 0] 54) ?_
  intro a H6 e12 e13
  replace h:=h a H6 e12 e13
  refine T_pd [] [(10,vp (pa a))]<| T_e<| T_sz<| T_sz ?_
  obtain⟨j,xw,q14,i,o,q15,h⟩:=h
  refine yk 5 (Code.ops K15) [(3,(ad e),[vp j,vu xw]),(2,(ad e),[vp i,vu o])] 4 (bv 4 0) (show FactsAt _ _ _ from⟨q14,q15,trivial⟩)<| T_g 0 (some 25) (.agg #[vp j,vu xw]) (bv 4 1) [(3,vp (pa b)),(5,vp (pa d)),(8,vp (pa e)),(10,vp (pa a)),(25,.agg #[vp j,vu xw])] (loadN 72 (vp (pa e))) (held_row 3 (λ_=>by kernel_rfl) (λ_=>by kernel_rfl) yQ (.inl (by kernel_rfl)))<| T_g1 1 26 (.agg #[vp i,vu o]) (bv 4 3) [8] (loadN 72 (vp (pa e))) (held_row 2 (λ_=>by kernel_rfl) (λ_=>by kernel_rfl) yJ (.inl (by kernel_rfl)))<| yv 2 (some 27) (bv 4 7) 34 #[.agg #[vp i,vu o],vi 1] h ?_;clear h
  rintro av H7 ⟨af,rfl,f16,h⟩
  refine⟨[(3,vp (pa b)),(5,vp (pa d)),(10,vp (pa a)),(25,.agg #[vp j,vu xw]),(27,vu af)],pk,(show FactsAt _ _ _ from⟨f16,trivial,trivial⟩),?_⟩
  refine yv 3 (some 28) (bv 4 15) 59 #[.agg #[vp j,vu xw],vu af] h ?_;clear h
  rintro u H8 ⟨-,h⟩
  refine⟨[(3,vp (pa b)),(5,vp (pa d)),(10,vp (pa a)),(28,u)],pk,(show FactsAt _ _ _ from⟨trivial,trivial,trivial⟩),?_⟩
  refine G_sub [(3,vp (pa b)),(5,vp (pa d)),(10,vp (pa a)),(28,u)] sk ?_
  refine yw<| S_then<| T_bz 0<| S_range (g:=.tmp 28) (ps:= #[29]) (assign:=K18) (body:=K19) (u) (by kernel_rfl) (by kernel_rfl) (by kernel_rfl) ?_
  intro rc lp H9 r17 e18 e19 y20
  refine FE.mono (h rc lp H9 e18 e19 (.func (.yield lp) #[] #[]) ?_) ?_
  ·clear h
   intro q H10 vRy q21 h
   refine y20 #[vu q] H10 vRy (by kernel_rfl) q21 (λw1x=>?_)
   refine T_su [(3,vp (pa b)),(5,vp (pa d)),(10,vp (pa a)),(28,u),(29,vu q)]<| T_rz 6<| T_nd 1 [28,29] [(11,vu q)]<| zq ?_
   obtain⟨q23,h⟩:=h
   refine S_then<| S_begin r17 q23 ?_
   intro ah e22
   replace h:=h ah e22
   refine T_bz 1<| T_srz 7 ?_
   obtain⟨z,q24,h⟩:=h
   refine T_l1 31 34 q24 [3]<| T_nd 1 [11] [(32,vu q)]<| T_c (some 33) h ?_;clear h
   rintro aq an ⟨ra,ai,rfl,h⟩
   refine T_pd [31,32] [(33,.tuple #[vu ra,vi ai])]<| T_ed 5 [33] [(12,vu ra)]<| T_srz 8 ?_
   obtain⟨aa,q25,h⟩:=h
   refine T_l1 37 88 q25 [5]<| T_nd 1 [12] [(38,vu ra)]<| N_callv (some 39) aa #[vu ra] (λ_=>by kernel_rfl) h ?_;clear h
   rintro ao ak ⟨xa,xb,rfl,h⟩
   refine T_pd [37,38] [(39,.tuple #[vu xa,vi xb])]<| T_ed 5 [39] [(14,vu xa)]<| T_rz 9 ?_
   obtain⟨xB,xN,xC,q26,h⟩:=h
   refine T_l1 42 54 q26 []<| T_nd 1 [14] [(43,vu xa)]<| T_nw (some 44) (λb=>vs (pa b) 1 1) (.cells #[vu xa] 31) ?_
   intro ab H14 e27 e28
   replace h:=h ab H14 e27 e28
   refine T_pd [43] [(44,vs (pa ab) 1 1)]<| N_op (some 45) (appendN #[54,54] 54 #[vs xB xN xC,vs (pa ab) 1 1]) _ (λ_=>by kernel_rfl) (ss_append (T:=31) (sz:=1) (bytes:=8) (zero:=(vu 0:Value)) Tryz.underlying54 Tryz.underlying54 rfl (show Tryz.prog.info? 31=some Tryz.t31 from by kernel_rfl) (by kernel_rfl) (by kernel_rfl) (by decide) (by kernel_rfl) (by first | exact h | (simpa only[Value.cells,List.toList_toArray]using h))) ?_;clear h
   rintro _ aj ⟨ap,ac,rfl,h⟩
   refine T_pd [42,44] [(45,vs ap (xN+1) ac)] ?_
   obtain⟨q30,h⟩:=h
   refine T_st1 54 (vs ap (xN+1) ac) q30 ?_
   intro ae e29
   replace h:=h ae e29
   refine⟨[],pk,?_⟩
   refine zq<| S_blockEnd ?_
   obtain⟨q31,h⟩:=h
   exact S_rnormal r17 q31 h
  clear h y20
  rintro _ al (⟨q32,h⟩)
  refine .inl ⟨q32,λag e35=>?_⟩
  replace h:=h ag e35
  refine S_marks (H8.size::[]) rfl ?_
  refine T_su [(10,vp (pa a))]<| S_blockEnd<| S_then<| T_srz 10 ?_
  obtain⟨s,r,t,q33,h⟩:=h
  refine T_l1 46 54 q33 []<| T_c (some 47) h ?_;clear h
  intro v_6 am h
  refine T_pd [46] []<| T_e<| T_srz 11 ?_
  obtain⟨n,l,m,q34,h⟩:=h
  refine T_l1 48 54 q34 [10]<| T_ne 2 [(6,vs n l m),(7,vi 0)]<| zx ?_
  show At _ _ _ _ _ (Q .ret)
  refine S_doneM (fn:=Tryz.f44) (H8.size::[]) hQ (Shut.mono (λau h=>?_) h)
  exact⟨[vs n l m,vi 0],(show ResOK _ _ _ [.tmp 6,.tmp 7] _ from .tmp (by kernel_rfl) (.tmp (by kernel_rfl) (.nil))),h⟩
 rw[if_neg c10]at h
 exact T_cTz 23 (bne_iff_ne.mpr c10)<| T_srz 3<| T_nr 3 [6,7] [vs none 0 0,vi rb] hQ h
end eqtab_told

/-! moraine/eqtab.Keys.1 -/
namespace eqtab_Keys_1
def K0:=Func.code Tryz.f45
end eqtab_Keys_1
def eqtab_Keys_1.pt(a:Int)(b:zW)(H:zV)(R:zw):Prop:=
 ∃d:Addr,b=some d/\
 ∃x:zW,hat H d=some (.pointer x)/\
 obj_Heap_Car.C x a H (λv H1=> ∃ra rb:Int,v=.tuple #[.int .u64 ra,.int .i64 rb]/\
 R (.tuple #[.int .u64 ra,.int .i64 rb]) H1)
namespace eqtab_Keys_1
theorem link{a:Int}{b:zW}{H:zV}{R:zw}(h:pt a b H R):C a b H R:=by
 refine T_en K0 10 Tryz.func45 ?_
 intro w0 Q hQ
 unfold pt at h
 refine T_su [(0,vu a),(1,vp b)]<| T_srz 0<| T_ed 2 [] []<| T_srz 1 ?_
 obtain⟨d,rfl,x,q1,h⟩:=h
 refine T_l1 5 34 q1 [1]<| T_nd 1 [0] [(6,vu a)]<| T_c (some 7) h ?_;clear h
 rintro v H1 ⟨ra,rb,rfl,h⟩
 refine⟨[(7,.tuple #[vu ra,vi rb])],pk,?_⟩
 exact T_nr 4 [3,4] [vu ra,vi rb] hQ h
end eqtab_Keys_1

/-! moraine/eqtab.Values.1 -/
namespace eqtab_Values_1
def K0:=Func.code Tryz.f50
end eqtab_Values_1
def eqtab_Values_1.pt(a:Int)(b:zW)(H:zV)(R:zw):Prop:=
 ∃d:Addr,b=some d/\
 ∃x:zW,hat H d=some (.pointer x)/\
 obj_Heap_Cdr.C x a H (λv H1=> ∃ra rb:Int,v=.tuple #[.int .u64 ra,.int .i64 rb]/\
 R (.tuple #[.int .u64 ra,.int .i64 rb]) H1)
namespace eqtab_Values_1
theorem link{a:Int}{b:zW}{H:zV}{R:zw}(h:pt a b H R):C a b H R:=by
 refine T_en K0 10 Tryz.func50 ?_
 intro w0 Q hQ
 unfold pt at h
 refine T_su [(0,vu a),(1,vp b)]<| T_srz 0<| T_ed 2 [] []<| T_srz 1 ?_
 obtain⟨d,rfl,x,q1,h⟩:=h
 refine T_l1 5 34 q1 [1]<| T_nd 1 [0] [(6,vu a)]<| T_c (some 7) h ?_;clear h
 rintro v H1 ⟨ra,rb,rfl,h⟩
 refine⟨[(7,.tuple #[vu ra,vi rb])],pk,?_⟩
 exact T_nr 4 [3,4] [vu ra,vi rb] hQ h
end eqtab_Values_1

