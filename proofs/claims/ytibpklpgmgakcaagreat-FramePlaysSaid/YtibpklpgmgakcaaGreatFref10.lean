/- Printed: what each function asks, and that it is sound. -/
import Derived.Test.YtibpklpgmgakcaaGreatFnsC
set_option linter.unusedSimpArgs false
set_option linter.unusedVariables false
set_option maxRecDepth 100000
set_option maxHeartbeats 1000000
noncomputable section
namespace Go.Proofs.YtibpklpgmgakcaaGreat
open Go
/-! moraine/moraineref10.New -/
namespace moraineref10_New
def K0:=Func.code Tryz.f9
end moraineref10_New
def moraineref10_New.pt(a:Int)(H:Array Obj)(R:Value->Array Obj->Prop):Prop:=
 moraineref09_New.C a H (λv H1=> ∃x:Option Addr,v=.pointer x/\
 onPtr x (
 R (.pointer none) H1) (λxA=>
 ∀(b:Nat) (H2:Array Obj),b=H1.size->H2=H1.push (.cells #[.pointer (some xA),.int .u64 0] 84)->
 R (.pointer (some (ad b))) H2))
namespace moraineref10_New
theorem link{a:Int}{H:Array Obj}{R:Value->Array Obj->Prop}(h:pt a H R):C a H R:=by
 refine T_en K0 11 Tryz.func9 ?_
 intro w0 Q hQ
 unfold pt at h
 refine T_su [(0,vi a)]<| T_srz 0<| T_ed 1 [] []<| T_srz 1<| T_n 1 [(4,vi a)] ?_
 refine T_c (some 5) h ?_;clear h
 rintro v H1 ⟨x,rfl,h⟩
 refine⟨[(5,vp x)],pk,?_⟩
 refine T_ne 1 [(3,vp x)]<| T_sz<| T_srz 2<| T_nd 1 [] [(6,vp x)] ?_
 rcases x with _ | xA
 ·rw[onPtr_none]at h
  exact T_ne 1 [(3,vp none),(7,.bool true)]<| T_tz 7<| T_srz 3<| T_nr 1 [2] [vp none] hQ h
 rw[onPtr_some]at h
 refine T_ne 1 [(3,vp (some xA)),(7,.bool false)]<| T_fz 7<| T_kt<| T_srz 4<| T_n 2 [(9,.agg #[vp (some xA),vu 0])]<| T_nw (some 10) (λb=>vp (pa b)) (.cells #[vp (some xA),vu 0] 84) ?_
 intro b H2 e1 e2
 replace h:=h b H2 e1 e2
 refine⟨[(10,vp (pa b))],pk,?_⟩
 exact T_nr 1 [2] [vp (pa b)] hQ h
end moraineref10_New

/-! (*moraine/moraineref10.Heap).Make -/
namespace moraineref10_Heap_Make
def K0:=Func.code Tryz.f46
end moraineref10_Heap_Make
def moraineref10_Heap_Make.pt(hv:Option Addr)(a d:Int)(lB:Option Addr)(lN lC:Nat)(H:Array Obj)(R:Value->Array Obj->Prop):Prop:=
 if(((decide (a<1)) || (decide (a>13))) || (decide (d>=281474976710656)))=true then(
 R (.tuple #[.int .u64 0,.int .i64 1]) H)
 else
 if(lN:Int)>62 then(
 R (.tuple #[.int .u64 0,.int .i64 6]) H)
 else
 moraineref01_Word.C 5 a (lN:Int) 0 d H (λv H1=> ∃x:Int,v=.int .u64 x/\
 ∀(b:Nat) (H2:Array Obj),b=H1.size->H2=H1.push (.cells #[.int .u64 x] 35)->
 appendK 1 35 8 [.int .u64 0] (some (ad b)) 1 1 lB lN H2 (λap e H3=>
 if((a==2) || (a==3))=true then(
 moraineref10_Heap_put.C hv 3 3 ap (1+lN) e H3 (λk H4=> ∃ra rb:Int,k=.tuple #[.int .u64 ra,.int .i64 rb]/\
 R (.tuple #[.int .u64 ra,.int .i64 rb]) H4))
 else
 moraineref10_Heap_put.C hv 2 3 ap (1+lN) e H3 (λj H5=> ∃i f:Int,j=.tuple #[.int .u64 i,.int .i64 f]/\
 R (.tuple #[.int .u64 i,.int .i64 f]) H5)))
namespace moraineref10_Heap_Make
theorem link{hv:Option Addr}{a d:Int}{lB:Option Addr}{lN lC:Nat}{H:Array Obj}{R:Value->Array Obj->Prop}(h:pt hv a d lB lN lC H R):C hv a d lB lN lC H R:=by
 refine T_en K0 50 Tryz.func46 ?_
 intro w0 Q hQ
 unfold pt at h
 refine T_su [(0,vp hv),(1,vi a),(2,vu d),(3,vs lB lN lC)]<| T_srz 0<| T_ed 2 [] []<| T_sz<| T_srz 1 ?_
 refine N_cut [(0,vp hv),(1,vi a),(2,vu d),(3,vs lB lN lC),(20,.bool (((decide (a<1)) || (decide (a>13))) || (decide (d>=281474976710656))))] ?_ ?_
 ·refine S_then ?_
  by_cases c5:(((decide (a<1)) || (decide (a>13))) || (decide (d>=281474976710656)))=true
  ·rw[if_pos c5]at h
   exact T_cTz 20 c5<| T_srz 2<| T_nr 2 [8,9] [vu 0,vi 1] hQ h
  rw[if_neg c5]at h
  refine T_cFz 20 (eq_false_of_ne_true c5)<| T_kt<| T_sz<| T_srz 3<| T_ne 3 [(0,vp hv),(1,vi a),(2,vu d),(3,vs lB lN lC),(23,.bool (decide ((lN:Int)>62)))] ?_
  by_cases c7:(lN:Int)>62
  ·rw[if_pos c7]at h
   exact T_cTz 23 (decide_eq_true c7)<| T_srz 4<| T_nr 2 [8,9] [vu 0,vi 6] hQ h
  rw[if_neg c7]at h
  refine T_cFz 23 (decide_eq_false c7)<| T_kt<| T_srz 5<| T_nd 5 [2,23] [(28,.agg #[vi 5,vi a,vi lN,vi 0,vu d])] ?_
  refine T_c (some 29) h ?_;clear h
  rintro v H1 ⟨x,rfl,h⟩
  refine T_pd [28] [(29,vu x)]<| T_nw (some 30) (λb=>vs (pa b) 1 1) (.cells #[vu x] 35) ?_
  intro b H2 e9 e10
  replace h:=h b H2 e9 e10
  refine T_pd [29] [(30,vs (pa b) 1 1)]<| T_ed 1 [30] [(10,vs (pa b) 1 1)]<| T_srz 6<| T_nd 2 [3,10] [(31,vs (pa b) 1 1),(32,vs lB lN lC)] ?_
  refine N_op (some 33) (appendN #[31,31] 31 #[vs (pa b) 1 1,vs lB lN lC]) _ (λ_=>by kernel_rfl) (ss_append (T:=35) (sz:=1) (bytes:=8) (zero:=(vu 0:Value)) Tryz.underlying31 Tryz.underlying31 rfl (show Tryz.prog.info? 35=some Tryz.t35 from by kernel_rfl) (by kernel_rfl) (by kernel_rfl) (by decide) (by kernel_rfl) (by first | exact h | (simpa only[Value.cells,List.toList_toArray]using h))) ?_;clear h
  rintro _ H3 ⟨ap,e,rfl,h⟩
  refine T_pd [31,32] [(33,vs ap (1+lN) e)]<| T_ed 1 [33] [(10,vs ap (1+lN) e)]<| T_sz<| T_srz 7 ?_
  refine N_cut [(0,vp hv),(10,vs ap (1+lN) e),(39,.bool ((a==2) || (a==3)))] ?_ ?_
  ·refine S_then ?_
   by_cases c13:((a==2) || (a==3))=true
   ·rw[if_pos c13]at h
    refine T_cTz 39 c13<| T_srz 8<| T_n 2 [(40,vp hv),(41,vs ap (1+lN) e)] ?_
    refine T_c (some 42) h ?_;clear h
    rintro k H4 ⟨ra,rb,rfl,h⟩
    refine⟨[(42,.tuple #[vu ra,vi rb])],pk,?_⟩
    exact T_nr 4 [8,9] [vu ra,vi rb] hQ h
   rw[if_neg c13]at h
   refine T_cFz 39 (eq_false_of_ne_true c13)<| T_kt<| T_srz 9<| T_n 2 [(45,vp hv),(46,vs ap (1+lN) e)] ?_
   refine T_c (some 47) h ?_;clear h
   rintro j H5 ⟨i,f,rfl,h⟩
   refine⟨[(47,.tuple #[vu i,vi f])],pk,?_⟩
   exact T_nr 4 [8,9] [vu i,vi f] hQ h
  intro hk
  refine T_n 3 [(0,vp hv),(1,vi a),(10,vs ap (1+lN) e),(36,.bool (a==2))] ?_
  by_cases c11:a=2
  ·have b12:(a==2)=true:=beq_iff_eq.mpr c11
   refine N_env [(0,vp hv),(1,vi a),(10,vs ap (1+lN) e),(36,.bool true)] (by rw[b12]) ?_
   refine T_nd 3 [1,36] [(39,.bool true)] ?_
   refine N_end (by kernel_rfl) ?_
   refine S_bd 39 (b:=true) (v:=((a==2) || (a==3))) (by simp only[b12,BL]) ?_
   exact hk
  have b12:(a==2)=false:=beq_eq_false_iff_ne.mpr c11
  refine N_env [(0,vp hv),(1,vi a),(10,vs ap (1+lN) e),(36,.bool false)] (by rw[b12]) ?_
  refine T_nd 3 [1,36] [(39,.bool (a==3))] ?_
  refine N_end (by kernel_rfl) ?_
  refine S_bd 39 (b:=(a==3)) (v:=((a==2) || (a==3))) (by simp only[b12,BL]) ?_
  exact hk
 intro hk
 refine T_n 3 [(0,vp hv),(1,vi a),(2,vu d),(3,vs lB lN lC),(13,.bool (decide (a<1)))] ?_
 by_cases c1:a<1
 ·have b2:(decide (a<1))=true:=decide_eq_true c1
  refine N_env [(0,vp hv),(1,vi a),(2,vu d),(3,vs lB lN lC),(13,.bool true)] (by rw[b2]) ?_
  refine T_nd 7 [13] [(20,.bool true)] ?_
  refine N_end (by kernel_rfl) ?_
  refine S_bd 20 (b:=true) (v:=(((decide (a<1)) || (decide (a>13))) || (decide (d>=281474976710656)))) (by simp only[b2,BL]) ?_
  exact hk
 have b2:(decide (a<1))=false:=decide_eq_false c1
 refine N_env [(0,vp hv),(1,vi a),(2,vu d),(3,vs lB lN lC),(13,.bool false)] (by rw[b2]) ?_
 refine T_nd 4 [13] [(17,.bool (decide (a>13)))] ?_
 by_cases c3:a>13
 ·have b4:(decide (a>13))=true:=decide_eq_true c3
  refine N_bd 17 b4<| T_nd 3 [17] [(20,.bool true)] ?_
  refine N_end (by kernel_rfl) ?_
  refine S_bd 20 (b:=true) (v:=(((decide (a<1)) || (decide (a>13))) || (decide (d>=281474976710656)))) (by simp only[b2,b4,BL]) ?_
  exact hk
 have b4:(decide (a>13))=false:=decide_eq_false c3
 refine N_bd 17 b4<| T_nd 3 [17] [(20,.bool (decide (d>=281474976710656)))] ?_
 refine N_end (by kernel_rfl) ?_
 refine S_bd 20 (b:=(decide (d>=281474976710656))) (v:=(((decide (a<1)) || (decide (a>13))) || (decide (d>=281474976710656)))) (by simp only[b2,b4,BL]) ?_
 exact hk
end moraineref10_Heap_Make

/-! (*moraine/moraineref10.Heap).Set -/
namespace moraineref10_Heap_Set
def K0:=Func.code Tryz.f48
end moraineref10_Heap_Set
def moraineref10_Heap_Set.pt(hv:Option Addr)(wv a i v:Int)(H:Array Obj)(R:Value->Array Obj->Prop):Prop:=
 moraineref10_Heap_Field.C hv wv a i H (λf H1=> ∃ra rb:Int,f=.tuple #[.int .i64 ra,.int .i64 rb]/\
 if rb=0 then(
 ∃d:Addr,hv=some d/\
 ∃x:Option Addr,hat H1 d=some (.pointer x)/\
 moraineref09_Cards_Store.C x ra v H1 (λe H2=> ∃b:Int,e=.int .i64 b/\
 R (.int .i64 b) H2))
 else
 R (.int .i64 rb) H1)
namespace moraineref10_Heap_Set
theorem link{hv:Option Addr}{wv a i v:Int}{H:Array Obj}{R:Value->Array Obj->Prop}(h:pt hv wv a i v H R):C hv wv a i v H R:=by
 refine T_en K0 31 Tryz.func48 ?_
 intro w0 Q hQ
 unfold pt at h
 refine T_su [(0,vp hv),(1,vu wv),(2,vi a),(3,vi i),(4,vu v)]<| T_srz 0<| T_ed 1 [] []<| T_srz 1<| T_nd 4 [1,2,3] [(14,vp hv),(15,vu wv),(16,vi a),(17,vi i)] ?_
 refine T_c (some 18) h ?_;clear h
 rintro f H1 ⟨ra,rb,rfl,h⟩
 refine T_pd [14,15,16,17] [(18,.tuple #[vi ra,vi rb])]<| T_ed 5 [18] [(11,vi ra),(12,vi rb)]<| T_sz<| T_srz 2<| T_ed 2 [] [(22,.bool (rb !=0))] ?_
 by_cases c1:rb=0
 ·rw[if_pos c1]at h
  refine T_cFz 22 (bne_eq_false_iff_eq.mpr c1)<| T_kt<| T_srz 4<| T_nd 1 [0,12,22] [(24,vp hv)] ?_
  obtain⟨d,rfl,h⟩:=h
  refine T_nd 2 [24] [(26,vp (some d))] ?_
  obtain⟨x,q3,h⟩:=h
  refine T_l1 27 82 q3 [26]<| T_nd 2 [4,11] [(28,vi ra),(29,vu v)] ?_
  refine T_c (some 30) h ?_;clear h
  rintro e H2 ⟨b,rfl,h⟩
  refine⟨[(30,vi b)],pk,?_⟩
  exact T_nr 1 [10] [vi b] hQ h
 rw[if_neg c1]at h
 exact T_cTz 22 (bne_iff_ne.mpr c1)<| T_srz 3<| T_nr 2 [10] [vi rb] hQ h
end moraineref10_Heap_Set

/-! (*moraine/moraineref10.Heap).Object -/
namespace moraineref10_Heap_Object
def K0:=Func.code Tryz.f89
def K2:=cb K0
def K4:=cb K2
def K6:=cb K4
def K11:=ca K6
def K12:=cb K6
def K14:=cb K12
def K20:=cb K14
def K22:=cb K20
def K24:=cb K22
def K32:=cb K24
def K34:=cb K32
def K40:=cb K34
def K45:=ca K40
end moraineref10_Heap_Object
def moraineref10_Heap_Object.pt(hv:Option Addr)(wv:Int)(H:Array Obj)(R:Value->Array Obj->Prop):Prop:=
 ∀(b:Nat) (H1:Array Obj),b=H.size->H1=H.push (.cells #[.int .i64 0,.int .i64 0,.int .i64 0,.int .i64 0,.int .u64 0] 155)->
 moraineref01_Of.C wv H1 (λv H2=> ∃av bi xA xX aw:Int,v=.agg #[.int .i64 av,.int .i64 bi,.int .i64 xA,.int .i64 xX,.int .u64 aw]/\
 ∀(d:Nat) (H3:Array Obj),d=H2.size->H3=H2.push (.cells #[.int .i64 0,.int .i64 0,.int .i64 0,.int .i64 0,.int .u64 0] 155)->
 (CanPuts H3 (ad d) 0 5)/\ ∀H4,H4=hputs H3 (ad d) [.int .i64 av,.int .i64 bi,.int .i64 xA,.int .i64 xX,.int .u64 aw] 0->
 ∃x:Int,hat H4 (ad d)=some (.int .i64 x)/\
 if x=2 then(
 ∃ci:Int,hat H4 ((ad d).add 1)=some (.int .i64 ci)/\
 if ci=3 then(
 ∃j:Addr,hv=some j/\
 ∃dx:Option Addr,hat H4 j=some (.pointer dx)/\
 ∃aq:Addr,dx=some aq/\
 ∃dy:Option Addr,hat H4 aq=some (.pointer dy)/\
 ∃au:Addr,dy=some au/\
 ∃ce:Option Addr,hat H4 au=some (.pointer ce)/\
 ∃ct:Int,hat H4 ((ad d).add 2)=some (.int .i64 ct)/\
 moraineref07_Mem_Word.C ce ct H4 (λd0 H5=> ∃(ra rb:Int) (rc:Bool),d0=.tuple #[.int .i64 ra,.int .i64 rb,.bool rc]/\
 if rc=true then(
 ∃df:Option Addr,hat H5 j=some (.pointer df)/\
 ∃dn:Addr,df=some dn/\
 ∃dr:Option Addr,hat H5 dn=some (.pointer dr)/\
 ∃dk:Addr,dr=some dk/\
 ∃dm:Option Addr,hat H5 dk=some (.pointer dm)/\
 ∃dw:Addr,dm=some dw/\
 ∃(xB:Option Addr) (xN xC:Nat),hat H5 (dw.add 1)=some (.slice xB xN xC)/\
 ∃cm:Addr,xB=some cm/\
 ((0:Int)<=ra/\ra< (xN:Int))/\
 ∃(cj ao aj cf o n m p:Int) (ac:Option Addr) (ab aa:Nat),RowAt H5 (cm.add (Int.toNat ra*9)) 0 [.int .i64 cj,.int .i64 ao,.int .i64 aj,.int .i64 cf,.int .i64 o,.int .i64 n,.int .i64 m,.int .i64 p,.slice ac ab aa]/\
 ∀(f:Nat) (H6:Array Obj),f=H5.size->H6=H5.push (.cells #[.int .i64 0,.int .i64 0,.int .i64 0,.int .i64 0,.int .i64 0,.int .i64 0,.int .i64 0,.int .i64 0,.slice none 0 0] 96)->
 (CanPuts H6 (ad f) 0 9)/\ ∀H7,H7=hputs H6 (ad f) [.int .i64 cj,.int .i64 ao,.int .i64 aj,.int .i64 cf,.int .i64 o,.int .i64 n,.int .i64 m,.int .i64 p,.slice ac ab aa] 0->
 ∃(ck:Option Addr) (bf b4:Nat),hat H7 ((ad f).add 8)=some (.slice ck bf b4)/\
 ∃bh:Addr,ck=some bh/\
 ((0:Int)<=rb/\rb< (bf:Int))/\
 ∃cl:Int,hat H7 (bh.add (Int.toNat rb*1))=some (.int .u64 cl)/\
 moraineref01_Of.C cl H7 (λdz H8=> ∃ah an bg be ai:Int,dz=.agg #[.int .i64 ah,.int .i64 an,.int .i64 bg,.int .i64 be,.int .u64 ai]/\
 ∀(e:Nat) (H9:Array Obj),e=H8.size->H9=H8.push (.cells #[.int .i64 0,.int .i64 0,.int .i64 0,.int .i64 0,.int .u64 0] 155)->
 (CanPuts H9 (ad e) 0 5)/\ ∀l,l=hputs H9 (ad e) [.int .i64 ah,.int .i64 an,.int .i64 bg,.int .i64 be,.int .u64 ai] 0->
 ∃a5:Int,hat l (ad e)=some (.int .i64 a5)/\
 if a5=5 then(
 ∃ap:Int,hat l ((ad e).add 2)=some (.int .i64 ap)/\
 ∃(c2:Option Addr) (bb c7:Nat),hat l ((ad f).add 8)=some (.slice c2 bb c7)/\
 if(IntKind.wrap .i64 (rb+ap))>=(bb:Int)then(
 (CanPuts l (ad b) 0 5)/\ ∀de,de=hputs l (ad b) [.int .i64 0,.int .i64 0,.int .i64 0,.int .i64 0,.int .u64 0] 0->
 ∃cq c1 rA rX co:Int,RowAt de (ad b) 0 [.int .i64 cq,.int .i64 c1,.int .i64 rA,.int .i64 rX,.int .u64 co]/\
 R (.tuple #[.int .i64 (-1),.agg #[.int .i64 cq,.int .i64 c1,.int .i64 rA,.int .i64 rX,.int .u64 co]]) de)
 else
 ∃a4:Int,hat l ((ad e).add 1)=some (.int .i64 a4)/\
 if a4=2 then(
 ∃a6:Int,hat l (((ad f).add 1).add 1)=some (.int .i64 a6)/\
 if a6=3 then(
 ∃am:Int,hat l ((ad d).add 2)=some (.int .i64 am)/\
 ∃u ag a0 ay y:Int,RowAt l (ad e) 0 [.int .i64 u,.int .i64 ag,.int .i64 a0,.int .i64 ay,.int .u64 y]/\
 (CanPuts l (ad b) 0 5)/\ ∀di,di=hputs l (ad b) [.int .i64 u,.int .i64 ag,.int .i64 a0,.int .i64 ay,.int .u64 y] 0->
 ∃bl b8 dc cw b3:Int,RowAt di (ad b) 0 [.int .i64 bl,.int .i64 b8,.int .i64 dc,.int .i64 cw,.int .u64 b3]/\
 R (.tuple #[.int .i64 am,.agg #[.int .i64 bl,.int .i64 b8,.int .i64 dc,.int .i64 cw,.int .u64 b3]]) di)
 else
 (CanPuts l (ad b) 0 5)/\ ∀dh,dh=hputs l (ad b) [.int .i64 0,.int .i64 0,.int .i64 0,.int .i64 0,.int .u64 0] 0->
 ∃bx b5 c3 cy bk:Int,RowAt dh (ad b) 0 [.int .i64 bx,.int .i64 b5,.int .i64 c3,.int .i64 cy,.int .u64 bk]/\
 R (.tuple #[.int .i64 (-1),.agg #[.int .i64 bx,.int .i64 b5,.int .i64 c3,.int .i64 cy,.int .u64 bk]]) dh)
 else
 ∃a3:Int,hat l ((ad e).add 1)=some (.int .i64 a3)/\
 if a3=3 then(
 ∃bd:Int,hat l (((ad f).add 1).add 1)=some (.int .i64 bd)/\
 if bd=3 then(
 ∃ak:Int,hat l ((ad d).add 2)=some (.int .i64 ak)/\
 ∃z ae ax az q:Int,RowAt l (ad e) 0 [.int .i64 z,.int .i64 ae,.int .i64 ax,.int .i64 az,.int .u64 q]/\
 (CanPuts l (ad b) 0 5)/\ ∀dg,dg=hputs l (ad b) [.int .i64 z,.int .i64 ae,.int .i64 ax,.int .i64 az,.int .u64 q] 0->
 ∃bw cd c6 cz bq:Int,RowAt dg (ad b) 0 [.int .i64 bw,.int .i64 cd,.int .i64 c6,.int .i64 cz,.int .u64 bq]/\
 R (.tuple #[.int .i64 ak,.agg #[.int .i64 bw,.int .i64 cd,.int .i64 c6,.int .i64 cz,.int .u64 bq]]) dg)
 else
 (CanPuts l (ad b) 0 5)/\ ∀dt,dt=hputs l (ad b) [.int .i64 0,.int .i64 0,.int .i64 0,.int .i64 0,.int .u64 0] 0->
 ∃b0 cc cu cv b1:Int,RowAt dt (ad b) 0 [.int .i64 b0,.int .i64 cc,.int .i64 cu,.int .i64 cv,.int .u64 b1]/\
 R (.tuple #[.int .i64 (-1),.agg #[.int .i64 b0,.int .i64 cc,.int .i64 cu,.int .i64 cv,.int .u64 b1]]) dt)
 else
 ∃a9:Int,hat l (((ad f).add 1).add 1)=some (.int .i64 a9)/\
 if a9=2 then(
 ∃al:Int,hat l ((ad d).add 2)=some (.int .i64 al)/\
 ∃r af a2 a1 s:Int,RowAt l (ad e) 0 [.int .i64 r,.int .i64 af,.int .i64 a2,.int .i64 a1,.int .u64 s]/\
 (CanPuts l (ad b) 0 5)/\ ∀dj,dj=hputs l (ad b) [.int .i64 r,.int .i64 af,.int .i64 a2,.int .i64 a1,.int .u64 s] 0->
 ∃bt ch cx c4 bp:Int,RowAt dj (ad b) 0 [.int .i64 bt,.int .i64 ch,.int .i64 cx,.int .i64 c4,.int .u64 bp]/\
 R (.tuple #[.int .i64 al,.agg #[.int .i64 bt,.int .i64 ch,.int .i64 cx,.int .i64 c4,.int .u64 bp]]) dj)
 else
 (CanPuts l (ad b) 0 5)/\ ∀du,du=hputs l (ad b) [.int .i64 0,.int .i64 0,.int .i64 0,.int .i64 0,.int .u64 0] 0->
 ∃bu cg db c5 bn:Int,RowAt du (ad b) 0 [.int .i64 bu,.int .i64 cg,.int .i64 db,.int .i64 c5,.int .u64 bn]/\
 R (.tuple #[.int .i64 (-1),.agg #[.int .i64 bu,.int .i64 cg,.int .i64 db,.int .i64 c5,.int .u64 bn]]) du)
 else
 (CanPuts l (ad b) 0 5)/\ ∀dl,dl=hputs l (ad b) [.int .i64 0,.int .i64 0,.int .i64 0,.int .i64 0,.int .u64 0] 0->
 ∃bj b7 dd da bz:Int,RowAt dl (ad b) 0 [.int .i64 bj,.int .i64 b7,.int .i64 dd,.int .i64 da,.int .u64 bz]/\
 R (.tuple #[.int .i64 (-1),.agg #[.int .i64 bj,.int .i64 b7,.int .i64 dd,.int .i64 da,.int .u64 bz]]) dl))
 else
 (CanPuts H5 (ad b) 0 5)/\ ∀dq,dq=hputs H5 (ad b) [.int .i64 0,.int .i64 0,.int .i64 0,.int .i64 0,.int .u64 0] 0->
 ∃b2 b6 c9 c0 br:Int,RowAt dq (ad b) 0 [.int .i64 b2,.int .i64 b6,.int .i64 c9,.int .i64 c0,.int .u64 br]/\
 R (.tuple #[.int .i64 (-1),.agg #[.int .i64 b2,.int .i64 b6,.int .i64 c9,.int .i64 c0,.int .u64 br]]) dq))
 else
 (CanPuts H4 (ad b) 0 5)/\ ∀dp,dp=hputs H4 (ad b) [.int .i64 0,.int .i64 0,.int .i64 0,.int .i64 0,.int .u64 0] 0->
 ∃a8 bo cr cp a7:Int,RowAt dp (ad b) 0 [.int .i64 a8,.int .i64 bo,.int .i64 cr,.int .i64 cp,.int .u64 a7]/\
 R (.tuple #[.int .i64 (-1),.agg #[.int .i64 a8,.int .i64 bo,.int .i64 cr,.int .i64 cp,.int .u64 a7]]) dp)
 else
 (CanPuts H4 (ad b) 0 5)/\ ∀dv,dv=hputs H4 (ad b) [.int .i64 0,.int .i64 0,.int .i64 0,.int .i64 0,.int .u64 0] 0->
 ∃bc bm cn cs ba:Int,RowAt dv (ad b) 0 [.int .i64 bc,.int .i64 bm,.int .i64 cn,.int .i64 cs,.int .u64 ba]/\
 R (.tuple #[.int .i64 (-1),.agg #[.int .i64 bc,.int .i64 bm,.int .i64 cn,.int .i64 cs,.int .u64 ba]]) dv)
namespace moraineref10_Heap_Object
theorem link{hv:Option Addr}{wv:Int}{H:Array Obj}{R:Value->Array Obj->Prop}(h:pt hv wv H R):C hv wv H R:=by
 refine T_en K0 97 Tryz.func89 ?_
 intro w0 Q hQ
 unfold pt at h
 refine T_su [(0,vp hv),(1,vu wv)]<| T_srz 0<| T_nd 1 [] []<| T_nw (some 5) (λb=>vp (pa b)) (.cells #[vi 0,vi 0,vi 0,vi 0,vu 0] 155) ?_
 intro b H1 e1 e2
 replace h:=h b H1 e1 e2
 refine T_pd [] [(5,vp (pa b))]<| T_e<| T_srz 1<| T_nd 1 [1] [(13,vu wv)] ?_
 refine T_c (some 14) h ?_;clear h
 rintro v H2 ⟨av,bi,xA,xX,aw,rfl,h⟩
 refine T_pd [13] [(14,.agg #[vi av,vi bi,vi xA,vi xX,vu aw])]<| T_nw (some 6) (λb=>vp (pa b)) (.cells #[vi 0,vi 0,vi 0,vi 0,vu 0] 155) ?_
 intro d H3 e3 e4
 replace h:=h d H3 e3 e4
 refine T_pd [] [(6,vp (pa d))] ?_
 obtain⟨q6,h⟩:=h
 refine T_sta 155 [vi av,vi bi,vi xA,vi xX,vu aw] q6 ?_
 intro H4 e5
 replace h:=h H4 e5
 refine T_pd [14] []<| T_e<| T_sz<| T_srz 2<| T_nd 1 [] [(15,vp (pa d))] ?_
 obtain⟨x,q7,h⟩:=h
 refine T_l1 16 3 q7 [15]<| T_nd 2 [16] [(18,.bool (x !=2))] ?_
 by_cases c8:x=2
 ·rw[if_pos c8]at h
  refine N_bd 18 (bne_eq_false_iff_eq.mpr c8)<| T_nd 1 [] [(19,vp (some ((ad d).add 1)))] ?_
  obtain⟨ci,q10,h⟩:=h
  refine T_l1 20 3 q10 [19]<| T_ed 2 [18,20] [(22,.bool (ci !=3))] ?_
  by_cases c11:ci=3
  ·rw[if_pos c11]at h
   refine T_cFz 22 (bne_eq_false_iff_eq.mpr c11)<| T_kt<| T_sz ?_
   obtain⟨j,rfl,h⟩:=h
   obtain⟨dx,q13,h⟩:=h
   obtain⟨aq,rfl,h⟩:=h
   obtain⟨dy,q14,h⟩:=h
   obtain⟨au,rfl,h⟩:=h
   obtain⟨ce,q15,h⟩:=h
   obtain⟨ct,q16,h⟩:=h
   refine S_regionG 4 (Code.ops K11) [(12,j,[vp (some aq)]),(12,aq,[vp (some au)]),(12,au,[vp ce]),(12,((ad d).add 2),[vi ct])] 20 (bv 20 0) (by kernel_rfl) (by kernel_rfl) (by kernel_rfl) (by kernel_rfl) (by kernel_rfl) (show FactsAt _ _ _ from⟨⟨q13,trivial⟩,⟨q14,trivial⟩,⟨q15,trivial⟩,⟨q16,trivial⟩,trivial⟩) ?_
   refine T_gp 0 (some 25) (vp (some j)) (bv 20 1) [(0,vp (some j)),(5,vp (pa b)),(6,vp (pa d)),(25,vp (some j))]<| T_gp1 1 26 (vp (some j)) (bv 20 3) [25]<| T_gp1 2 27 (vp (some j)) (bv 20 7) [26]<| T_g1 3 28 (vp (some aq)) (bv 20 15) [27] (loadN 82 (vp (some j))) (held_one 12 (λ_=>by kernel_rfl) (List.Mem.head _) (.inl (by kernel_rfl)))<| T_gp1 4 29 (vp (some aq)) (bv 20 31) [28]<| T_gp1 5 30 (vp (some aq)) (bv 20 63) [29]<| T_g1 6 31 (vp (some au)) (bv 20 127) [30] (loadN 79 (vp (some aq))) (held_one 12 (λ_=>by kernel_rfl) (List.Mem.tail _ (List.Mem.head _)) (.inl (by kernel_rfl)))<| T_gp1 7 32 (vp (some au)) (bv 20 255) [31]<| T_gp1 8 33 (vp (some au)) (bv 20 511) [32] ?_
   refine T_g1 9 34 (vp ce) (bv 20 1023) [33] (loadN 76 (vp (some au))) (held_one 12 (λ_=>by kernel_rfl) (List.Mem.tail _ (List.Mem.tail _ (List.Mem.head _))) (.inl (by kernel_rfl)))<| T_gp1 10 35 (vp (some ((ad d).add 2))) (bv 20 2047) []<| T_g1 11 36 (vi ct) (bv 20 4095) [35] (loadN 3 (vp (some ((ad d).add 2)))) (held_one 12 (λ_=>by kernel_rfl) (List.Mem.tail _ (List.Mem.tail _ (List.Mem.tail _ (List.Mem.head _)))) (.inl (by kernel_rfl))) ?_
   refine G_call 12 (some 37) (bv 20 8191) 149 #[vp ce,vi ct] (by kernel_rfl) (λ_=>by kernel_rfl) h (by kernel_rfl) ?_;clear h
   rintro d0 H5 ⟨ra,rb,rc,rfl,h⟩
   refine⟨[(0,vp (some j)),(5,vp (pa b)),(6,vp (pa d)),(37,.tuple #[vi ra,vi rb,.bool rc])],pk,(show FactsAt _ _ _ from⟨trivial,trivial,trivial,trivial,trivial⟩),?_⟩
   refine T_g 13 (some 24) (.tuple #[vi ra,vi rb,.bool rc]) (bv 20 16383) [(0,vp (some j)),(5,vp (pa b)),(6,vp (pa d)),(24,.tuple #[vi ra,vi rb,.bool rc])] (pure (.value (.tuple #[vi ra,vi rb,.bool rc])):Sem Next) (λ_ _ _ _ _=>rfl)<| T_g1 14 38 (vi ra) (bv 20 32767) [] (pure (.value (vi ra)):Sem Next) (λ_ _ _ _ _=>rfl)<| T_g1 15 39 (vi rb) (bv 20 65535) [] (pure (.value (vi rb)):Sem Next) (λ_ _ _ _ _=>rfl)<| T_g1 16 40 (.bool rc) (bv 20 131071) [24] (pure (.value (.bool rc)):Sem Next) (λ_ _ _ _ _=>rfl)<| T_g1 17 7 (vi ra) (bv 20 262143) [38] (pure (.value (vi ra)):Sem Next) (λ_ _ _ _ _=>rfl)<| T_g1 18 8 (vi rb) (bv 20 524287) [39] (pure (.value (vi rb)):Sem Next) (λ_ _ _ _ _=>rfl)<| T_g1 19 9 (.bool rc) (bv 20 1048575) [40] (pure (.value (.bool rc)):Sem Next) (λ_ _ _ _ _=>rfl) ?_
   refine G_sub [(0,vp (some j)),(5,vp (pa b)),(6,vp (pa d)),(7,vi ra),(8,vi rb),(9,.bool rc)] sk ?_
   refine G_end (by kernel_rfl) ?_
   refine S_then ?_
   refine T_sz<| T_srz 5<| T_ne 2 [(0,vp (some j)),(5,vp (pa b)),(6,vp (pa d)),(7,vi ra),(8,vi rb),(42,.bool (!rc))] ?_
   by_cases c17:rc=true
   ·rw[if_pos c17]at h
    refine T_cFz 42 (congrArg Bool.not (c17))<| T_kt<| T_srz 7<| T_nd 3 [0,42] [(46,vp (some j))] ?_
    obtain⟨df,q19,h⟩:=h
    refine T_l1 47 82 q19 [46] ?_
    obtain⟨dn,rfl,h⟩:=h
    refine T_nd 2 [47] [(49,vp (some dn))] ?_
    obtain⟨dr,q20,h⟩:=h
    refine T_l1 50 79 q20 [49] ?_
    obtain⟨dk,rfl,h⟩:=h
    refine T_nd 2 [50] [(52,vp (some dk))] ?_
    obtain⟨dm,q21,h⟩:=h
    refine T_l1 53 76 q21 [52] ?_
    obtain⟨dw,rfl,h⟩:=h
    refine T_nd 2 [53] [(55,vp (some (dw.add 1)))] ?_
    obtain⟨xB,xN,xC,q22,h⟩:=h
    refine T_l1 56 88 q22 [55]<| T_nd 1 [7] [(57,vi ra)] ?_
    obtain⟨cm,rfl,h⟩:=h
    obtain⟨q23,h⟩:=h
    refine T_xd (some 58) 88 96 9 cm xN xC .i64 ra Tryz.underlying88 q23.1 q23.2 [56,57] [(58,vp (some (cm.add (Int.toNat ra*9))))] ?_
    obtain⟨cj,ao,aj,cf,o,n,m,p,ac,ab,aa,q24,h⟩:=h
    refine T_lr 59 96 q24 [58]<| T_nw (some 10) (λb=>vp (pa b)) (.cells #[vi 0,vi 0,vi 0,vi 0,vi 0,vi 0,vi 0,vi 0,vs none 0 0] 96) ?_
    intro f H6 e25 e26
    replace h:=h f H6 e25 e26
    refine T_pd [] [(10,vp (pa f))] ?_
    obtain⟨q28,h⟩:=h
    refine T_sta 96 [vi cj,vi ao,vi aj,vi cf,vi o,vi n,vi m,vi p,vs ac ab aa] q28 ?_
    intro H7 e27
    replace h:=h H7 e27
    refine T_pd [59] []<| T_e<| T_srz 8<| T_nd 1 [] [(60,vp (some ((ad f).add 8)))] ?_
    obtain⟨ck,bf,b4,q29,h⟩:=h
    refine T_l1 61 31 q29 [60]<| T_nd 1 [] [(62,vi rb)] ?_
    obtain⟨bh,rfl,h⟩:=h
    obtain⟨q30,h⟩:=h
    refine T_xd (some 63) 31 35 1 bh bf b4 .i64 rb Tryz.underlying31 q30.1 q30.2 [61,62] [(63,vp (some (bh.add (Int.toNat rb*1))))] ?_
    obtain⟨cl,q31,h⟩:=h
    refine T_l1 64 35 q31 [63] ?_
    refine T_c (some 65) h ?_;clear h
    rintro dz H8 ⟨ah,an,bg,be,ai,rfl,h⟩
    refine T_pd [64] [(65,.agg #[vi ah,vi an,vi bg,vi be,vu ai])]<| T_nw (some 11) (λb=>vp (pa b)) (.cells #[vi 0,vi 0,vi 0,vi 0,vu 0] 155) ?_
    intro e H9 e32 e33
    replace h:=h e H9 e32 e33
    refine T_pd [] [(11,vp (pa e))] ?_
    obtain⟨q35,h⟩:=h
    refine T_sta 155 [vi ah,vi an,vi bg,vi be,vu ai] q35 ?_
    intro l e34
    replace h:=h l e34
    refine T_pd [65] []<| T_e<| T_sz<| T_srz 9<| T_nd 1 [] [(66,vp (pa e))] ?_
    obtain⟨a5,q36,h⟩:=h
    refine T_l1 67 3 q36 [66]<| T_nd 2 [67] [(69,.bool (a5 !=5))] ?_
    by_cases c37:a5=5
    ·rw[if_pos c37]at h
     refine N_bd 69 (bne_eq_false_iff_eq.mpr c37)<| T_nd 2 [8] [(70,vi rb),(71,vp (some ((ad e).add 2)))] ?_
     obtain⟨ap,q39,h⟩:=h
     refine T_l1 72 3 q39 [71]<| T_nd 2 [70,72] [(73,vi (IntKind.wrap .i64 (rb+ap))),(74,vp (some ((ad f).add 8)))] ?_
     obtain⟨c2,bb,c7,q40,h⟩:=h
     refine T_l1 75 31 q40 [74]<| T_ed 3 [69,73,75] [(78,.bool (decide ((IntKind.wrap .i64 (rb+ap))>=(bb:Int))))] ?_
     by_cases c41:(IntKind.wrap .i64 (rb+ap))>=(bb:Int)
     ·rw[if_pos c41]at h
      refine T_cTz 78 (decide_eq_true c41)<| T_srz 10<| T_n 2 [(4,vi (-1)),(5,vp (pa b)),(79,.agg #[vi 0,vi 0,vi 0,vi 0,vu 0])] ?_
      obtain⟨q44,h⟩:=h
      refine T_sta 155 [vi 0,vi 0,vi 0,vi 0,vu 0] q44 ?_
      intro de e43
      replace h:=h de e43
      refine T_pd [79] []<| T_e ?_
      refine S_ret (by kernel_rfl) ?_
      show At _ _ _ _ _ (Q .ret)
      obtain⟨cq,c1,rA,rX,co,q45,h⟩:=h
      exact S_done (fn:=Tryz.f89) [vi (-1),.agg #[vi cq,vi c1,vi rA,vi rX,vu co]] hQ (show ResOK _ _ _ [.tmp 4,.cell 5 155] _ from .tmp (by kernel_rfl) (.cell (by kernel_rfl) (loadOK_row (λ_=>by kernel_rfl) (λ_=>by kernel_rfl) q45) (.nil))) h
     rw[if_neg c41]at h
     refine T_cFz 78 (decide_eq_false c41)<| T_kt<| T_srz 11<| T_ed 1 [78] [(12,vi 2)]<| T_sz<| T_srz 12<| T_nd 1 [] [(80,vp (some ((ad e).add 1)))] ?_
     obtain⟨a4,q46,h⟩:=h
     refine T_l1 81 3 q46 [80]<| T_nd 2 [81] [(83,.bool (a4==2))] ?_
     by_cases c47:a4=2
     ·rw[if_pos c47]at h
      refine N_bd 83 (beq_iff_eq.mpr c47)<| T_ed 4 [83] [(87,.bool true)]<| T_tz 87<| T_rz 13<| T_ed 1 [12,87] [(12,vi 3)]<| T_sz<| T_srz 14<| T_nd 2 [10] [(89,vp (some (((ad f).add 1).add 1)))] ?_
      obtain⟨a6,q49,h⟩:=h
      refine T_l1 90 3 q49 [89]<| T_ed 2 [12,90] [(92,.bool (a6 !=3))] ?_
      by_cases c50:a6=3
      ·rw[if_pos c50]at h
       refine T_cFz 92 (bne_eq_false_iff_eq.mpr c50)<| T_kt<| T_sz ?_
       obtain⟨am,q52,h⟩:=h
       obtain⟨u,ag,a0,ay,y,q53,h⟩:=h
       refine S_regionG 16 (Code.ops K45) [(4,((ad d).add 2),[vi am]),(4,(ad e),[vi u,vi ag,vi a0,vi ay,vu y])] 5 (bv 5 0) (by kernel_rfl) (by kernel_rfl) (by kernel_rfl) (by kernel_rfl) (by kernel_rfl) (show FactsAt _ _ _ from⟨⟨q52,trivial⟩,q53,trivial⟩) ?_
       refine T_gp 0 (some 94) (vp (some ((ad d).add 2))) (bv 5 1) [(5,vp (pa b)),(11,vp (pa e)),(94,vp (some ((ad d).add 2)))]<| T_g1 1 95 (vi am) (bv 5 3) [94] (loadN 3 (vp (some ((ad d).add 2)))) (held_one 4 (λ_=>by kernel_rfl) (List.Mem.head _) (.inl (by kernel_rfl)))<| T_g1 2 96 (.agg #[vi u,vi ag,vi a0,vi ay,vu y]) (bv 5 7) [11] (loadN 155 (vp (pa e))) (held_row 4 (λ_=>by kernel_rfl) (λ_=>by kernel_rfl) (List.Mem.tail _ (List.Mem.head _)) (.inl (by kernel_rfl)))<| T_gp1 3 4 (vi am) (bv 5 15) [95] ?_
       obtain⟨q55,h⟩:=h
       refine G_onlyskip 4 none (bv 5 31) (storeN 155 (vp (pa b)) (.agg #[vi u,vi ag,vi a0,vi ay,vu y])) (λHz=>Hz=hputs l (ad b) [vi u,vi ag,vi a0,vi ay,vu y] 0) (by kernel_rfl) (λ_=>by kernel_rfl) (ss_store [vi u,vi ag,vi a0,vi ay,vu y] 5 (by kernel_rfl) (by kernel_rfl) (λ_=>by kernel_rfl) (by kernel_rfl) q55) (by kernel_rfl) ?_
       intro di e54
       replace h:=h di e54
       refine⟨[(4,vi am),(5,vp (pa b))],pk,(show FactsAt _ _ _ from⟨trivial,trivial,trivial⟩),?_⟩
       refine G_sub [(4,vi am),(5,vp (pa b))] sk ?_
       refine G_end (by kernel_rfl) ?_
       refine S_then ?_
       refine S_ret (by kernel_rfl) ?_
       show At _ _ _ _ _ (Q .ret)
       obtain⟨bl,b8,dc,cw,b3,q56,h⟩:=h
       exact S_done (fn:=Tryz.f89) [vi am,.agg #[vi bl,vi b8,vi dc,vi cw,vu b3]] hQ (show ResOK _ _ _ [.tmp 4,.cell 5 155] _ from .tmp (by kernel_rfl) (.cell (by kernel_rfl) (loadOK_row (λ_=>by kernel_rfl) (λ_=>by kernel_rfl) q56) (.nil))) h
      rw[if_neg c50]at h
      refine T_cTz 92 (bne_iff_ne.mpr c50)<| T_srz 15<| T_nd 2 [6,11,92] [(4,vi (-1)),(93,.agg #[vi 0,vi 0,vi 0,vi 0,vu 0])] ?_
      obtain⟨q58,h⟩:=h
      refine T_sta 155 [vi 0,vi 0,vi 0,vi 0,vu 0] q58 ?_
      intro dh e57
      replace h:=h dh e57
      refine T_pd [93] []<| T_e ?_
      refine S_ret (by kernel_rfl) ?_
      show At _ _ _ _ _ (Q .ret)
      obtain⟨bx,b5,c3,cy,bk,q59,h⟩:=h
      exact S_done (fn:=Tryz.f89) [vi (-1),.agg #[vi bx,vi b5,vi c3,vi cy,vu bk]] hQ (show ResOK _ _ _ [.tmp 4,.cell 5 155] _ from .tmp (by kernel_rfl) (.cell (by kernel_rfl) (loadOK_row (λ_=>by kernel_rfl) (λ_=>by kernel_rfl) q59) (.nil))) h
     rw[if_neg c47]at h
     refine N_bd 83 (beq_eq_false_iff_ne.mpr c47)<| T_nd 1 [] [(84,vp (some ((ad e).add 1)))] ?_
     obtain⟨a3,q60,h⟩:=h
     refine T_l1 85 3 q60 [84]<| T_ed 2 [83,85] [(87,.bool (a3==3))] ?_
     by_cases c61:a3=3
     ·rw[if_pos c61]at h
      refine T_cTz 87 (beq_iff_eq.mpr c61)<| T_rz 13<| T_ed 1 [12,87] [(12,vi 3)]<| T_sz<| T_srz 14<| T_nd 2 [10] [(89,vp (some (((ad f).add 1).add 1)))] ?_
      obtain⟨bd,q63,h⟩:=h
      refine T_l1 90 3 q63 [89]<| T_ed 2 [12,90] [(92,.bool (bd !=3))] ?_
      by_cases c64:bd=3
      ·rw[if_pos c64]at h
       refine T_cFz 92 (bne_eq_false_iff_eq.mpr c64)<| T_kt<| T_sz ?_
       obtain⟨ak,q66,h⟩:=h
       obtain⟨z,ae,ax,az,q,q67,h⟩:=h
       refine S_regionG 16 (Code.ops K45) [(4,((ad d).add 2),[vi ak]),(4,(ad e),[vi z,vi ae,vi ax,vi az,vu q])] 5 (bv 5 0) (by kernel_rfl) (by kernel_rfl) (by kernel_rfl) (by kernel_rfl) (by kernel_rfl) (show FactsAt _ _ _ from⟨⟨q66,trivial⟩,q67,trivial⟩) ?_
       refine T_gp 0 (some 94) (vp (some ((ad d).add 2))) (bv 5 1) [(5,vp (pa b)),(11,vp (pa e)),(94,vp (some ((ad d).add 2)))]<| T_g1 1 95 (vi ak) (bv 5 3) [94] (loadN 3 (vp (some ((ad d).add 2)))) (held_one 4 (λ_=>by kernel_rfl) (List.Mem.head _) (.inl (by kernel_rfl)))<| T_g1 2 96 (.agg #[vi z,vi ae,vi ax,vi az,vu q]) (bv 5 7) [11] (loadN 155 (vp (pa e))) (held_row 4 (λ_=>by kernel_rfl) (λ_=>by kernel_rfl) (List.Mem.tail _ (List.Mem.head _)) (.inl (by kernel_rfl)))<| T_gp1 3 4 (vi ak) (bv 5 15) [95] ?_
       obtain⟨q69,h⟩:=h
       refine G_onlyskip 4 none (bv 5 31) (storeN 155 (vp (pa b)) (.agg #[vi z,vi ae,vi ax,vi az,vu q])) (λHz=>Hz=hputs l (ad b) [vi z,vi ae,vi ax,vi az,vu q] 0) (by kernel_rfl) (λ_=>by kernel_rfl) (ss_store [vi z,vi ae,vi ax,vi az,vu q] 5 (by kernel_rfl) (by kernel_rfl) (λ_=>by kernel_rfl) (by kernel_rfl) q69) (by kernel_rfl) ?_
       intro dg e68
       replace h:=h dg e68
       refine⟨[(4,vi ak),(5,vp (pa b))],pk,(show FactsAt _ _ _ from⟨trivial,trivial,trivial⟩),?_⟩
       refine G_sub [(4,vi ak),(5,vp (pa b))] sk ?_
       refine G_end (by kernel_rfl) ?_
       refine S_then ?_
       refine S_ret (by kernel_rfl) ?_
       show At _ _ _ _ _ (Q .ret)
       obtain⟨bw,cd,c6,cz,bq,q70,h⟩:=h
       exact S_done (fn:=Tryz.f89) [vi ak,.agg #[vi bw,vi cd,vi c6,vi cz,vu bq]] hQ (show ResOK _ _ _ [.tmp 4,.cell 5 155] _ from .tmp (by kernel_rfl) (.cell (by kernel_rfl) (loadOK_row (λ_=>by kernel_rfl) (λ_=>by kernel_rfl) q70) (.nil))) h
      rw[if_neg c64]at h
      refine T_cTz 92 (bne_iff_ne.mpr c64)<| T_srz 15<| T_nd 2 [6,11,92] [(4,vi (-1)),(93,.agg #[vi 0,vi 0,vi 0,vi 0,vu 0])] ?_
      obtain⟨q72,h⟩:=h
      refine T_sta 155 [vi 0,vi 0,vi 0,vi 0,vu 0] q72 ?_
      intro dt e71
      replace h:=h dt e71
      refine T_pd [93] []<| T_e ?_
      refine S_ret (by kernel_rfl) ?_
      show At _ _ _ _ _ (Q .ret)
      obtain⟨b0,cc,cu,cv,b1,q73,h⟩:=h
      exact S_done (fn:=Tryz.f89) [vi (-1),.agg #[vi b0,vi cc,vi cu,vi cv,vu b1]] hQ (show ResOK _ _ _ [.tmp 4,.cell 5 155] _ from .tmp (by kernel_rfl) (.cell (by kernel_rfl) (loadOK_row (λ_=>by kernel_rfl) (λ_=>by kernel_rfl) q73) (.nil))) h
     rw[if_neg c61]at h
     refine T_cFz 87 (beq_eq_false_iff_ne.mpr c61)<| T_kt<| T_sz<| T_srz 14<| T_nd 2 [10,87] [(89,vp (some (((ad f).add 1).add 1)))] ?_
     obtain⟨a9,q74,h⟩:=h
     refine T_l1 90 3 q74 [89]<| T_ed 2 [12,90] [(92,.bool (a9 !=2))] ?_
     by_cases c75:a9=2
     ·rw[if_pos c75]at h
      refine T_cFz 92 (bne_eq_false_iff_eq.mpr c75)<| T_kt<| T_sz ?_
      obtain⟨al,q77,h⟩:=h
      obtain⟨r,af,a2,a1,s,q78,h⟩:=h
      refine S_regionG 16 (Code.ops K45) [(4,((ad d).add 2),[vi al]),(4,(ad e),[vi r,vi af,vi a2,vi a1,vu s])] 5 (bv 5 0) (by kernel_rfl) (by kernel_rfl) (by kernel_rfl) (by kernel_rfl) (by kernel_rfl) (show FactsAt _ _ _ from⟨⟨q77,trivial⟩,q78,trivial⟩) ?_
      refine T_gp 0 (some 94) (vp (some ((ad d).add 2))) (bv 5 1) [(5,vp (pa b)),(11,vp (pa e)),(94,vp (some ((ad d).add 2)))]<| T_g1 1 95 (vi al) (bv 5 3) [94] (loadN 3 (vp (some ((ad d).add 2)))) (held_one 4 (λ_=>by kernel_rfl) (List.Mem.head _) (.inl (by kernel_rfl)))<| T_g1 2 96 (.agg #[vi r,vi af,vi a2,vi a1,vu s]) (bv 5 7) [11] (loadN 155 (vp (pa e))) (held_row 4 (λ_=>by kernel_rfl) (λ_=>by kernel_rfl) (List.Mem.tail _ (List.Mem.head _)) (.inl (by kernel_rfl)))<| T_gp1 3 4 (vi al) (bv 5 15) [95] ?_
      obtain⟨q80,h⟩:=h
      refine G_onlyskip 4 none (bv 5 31) (storeN 155 (vp (pa b)) (.agg #[vi r,vi af,vi a2,vi a1,vu s])) (λHz=>Hz=hputs l (ad b) [vi r,vi af,vi a2,vi a1,vu s] 0) (by kernel_rfl) (λ_=>by kernel_rfl) (ss_store [vi r,vi af,vi a2,vi a1,vu s] 5 (by kernel_rfl) (by kernel_rfl) (λ_=>by kernel_rfl) (by kernel_rfl) q80) (by kernel_rfl) ?_
      intro dj e79
      replace h:=h dj e79
      refine⟨[(4,vi al),(5,vp (pa b))],pk,(show FactsAt _ _ _ from⟨trivial,trivial,trivial⟩),?_⟩
      refine G_sub [(4,vi al),(5,vp (pa b))] sk ?_
      refine G_end (by kernel_rfl) ?_
      refine S_then ?_
      refine S_ret (by kernel_rfl) ?_
      show At _ _ _ _ _ (Q .ret)
      obtain⟨bt,ch,cx,c4,bp,q81,h⟩:=h
      exact S_done (fn:=Tryz.f89) [vi al,.agg #[vi bt,vi ch,vi cx,vi c4,vu bp]] hQ (show ResOK _ _ _ [.tmp 4,.cell 5 155] _ from .tmp (by kernel_rfl) (.cell (by kernel_rfl) (loadOK_row (λ_=>by kernel_rfl) (λ_=>by kernel_rfl) q81) (.nil))) h
     rw[if_neg c75]at h
     refine T_cTz 92 (bne_iff_ne.mpr c75)<| T_srz 15<| T_nd 2 [6,11,92] [(4,vi (-1)),(93,.agg #[vi 0,vi 0,vi 0,vi 0,vu 0])] ?_
     obtain⟨q83,h⟩:=h
     refine T_sta 155 [vi 0,vi 0,vi 0,vi 0,vu 0] q83 ?_
     intro du e82
     replace h:=h du e82
     refine T_pd [93] []<| T_e ?_
     refine S_ret (by kernel_rfl) ?_
     show At _ _ _ _ _ (Q .ret)
     obtain⟨bu,cg,db,c5,bn,q84,h⟩:=h
     exact S_done (fn:=Tryz.f89) [vi (-1),.agg #[vi bu,vi cg,vi db,vi c5,vu bn]] hQ (show ResOK _ _ _ [.tmp 4,.cell 5 155] _ from .tmp (by kernel_rfl) (.cell (by kernel_rfl) (loadOK_row (λ_=>by kernel_rfl) (λ_=>by kernel_rfl) q84) (.nil))) h
    rw[if_neg c37]at h
    refine N_bd 69 (bne_iff_ne.mpr c37)<| T_ed 9 [8,69] [(78,.bool true)]<| T_tz 78<| T_srz 10<| T_n 2 [(4,vi (-1)),(5,vp (pa b)),(79,.agg #[vi 0,vi 0,vi 0,vi 0,vu 0])] ?_
    obtain⟨q86,h⟩:=h
    refine T_sta 155 [vi 0,vi 0,vi 0,vi 0,vu 0] q86 ?_
    intro dl e85
    replace h:=h dl e85
    refine T_pd [79] []<| T_e ?_
    refine S_ret (by kernel_rfl) ?_
    show At _ _ _ _ _ (Q .ret)
    obtain⟨bj,b7,dd,da,bz,q87,h⟩:=h
    exact S_done (fn:=Tryz.f89) [vi (-1),.agg #[vi bj,vi b7,vi dd,vi da,vu bz]] hQ (show ResOK _ _ _ [.tmp 4,.cell 5 155] _ from .tmp (by kernel_rfl) (.cell (by kernel_rfl) (loadOK_row (λ_=>by kernel_rfl) (λ_=>by kernel_rfl) q87) (.nil))) h
   rw[if_neg c17]at h
   refine T_cTz 42 (congrArg Bool.not (eq_false_of_ne_true c17))<| T_srz 6<| T_n 2 [(4,vi (-1)),(5,vp (pa b)),(43,.agg #[vi 0,vi 0,vi 0,vi 0,vu 0])] ?_
   obtain⟨q89,h⟩:=h
   refine T_sta 155 [vi 0,vi 0,vi 0,vi 0,vu 0] q89 ?_
   intro dq e88
   replace h:=h dq e88
   refine T_pd [43] []<| T_e ?_
   refine S_ret (by kernel_rfl) ?_
   show At _ _ _ _ _ (Q .ret)
   obtain⟨b2,b6,c9,c0,br,q90,h⟩:=h
   exact S_done (fn:=Tryz.f89) [vi (-1),.agg #[vi b2,vi b6,vi c9,vi c0,vu br]] hQ (show ResOK _ _ _ [.tmp 4,.cell 5 155] _ from .tmp (by kernel_rfl) (.cell (by kernel_rfl) (loadOK_row (λ_=>by kernel_rfl) (λ_=>by kernel_rfl) q90) (.nil))) h
  rw[if_neg c11]at h
  refine T_cTz 22 (bne_iff_ne.mpr c11)<| T_srz 3<| T_nd 2 [0,6,22] [(4,vi (-1)),(23,.agg #[vi 0,vi 0,vi 0,vi 0,vu 0])] ?_
  obtain⟨q92,h⟩:=h
  refine T_sta 155 [vi 0,vi 0,vi 0,vi 0,vu 0] q92 ?_
  intro dp e91
  replace h:=h dp e91
  refine T_pd [23] []<| T_e ?_
  refine S_ret (by kernel_rfl) ?_
  show At _ _ _ _ _ (Q .ret)
  obtain⟨a8,bo,cr,cp,a7,q93,h⟩:=h
  exact S_done (fn:=Tryz.f89) [vi (-1),.agg #[vi a8,vi bo,vi cr,vi cp,vu a7]] hQ (show ResOK _ _ _ [.tmp 4,.cell 5 155] _ from .tmp (by kernel_rfl) (.cell (by kernel_rfl) (loadOK_row (λ_=>by kernel_rfl) (λ_=>by kernel_rfl) q93) (.nil))) h
 rw[if_neg c8]at h
 refine N_bd 18 (bne_iff_ne.mpr c8)<| T_ed 4 [18] [(22,.bool true)]<| T_tz 22<| T_srz 3<| T_nd 2 [0,6,22] [(4,vi (-1)),(23,.agg #[vi 0,vi 0,vi 0,vi 0,vu 0])] ?_
 obtain⟨q95,h⟩:=h
 refine T_sta 155 [vi 0,vi 0,vi 0,vi 0,vu 0] q95 ?_
 intro dv e94
 replace h:=h dv e94
 refine T_pd [23] []<| T_e ?_
 refine S_ret (by kernel_rfl) ?_
 show At _ _ _ _ _ (Q .ret)
 obtain⟨bc,bm,cn,cs,ba,q96,h⟩:=h
 exact S_done (fn:=Tryz.f89) [vi (-1),.agg #[vi bc,vi bm,vi cn,vi cs,vu ba]] hQ (show ResOK _ _ _ [.tmp 4,.cell 5 155] _ from .tmp (by kernel_rfl) (.cell (by kernel_rfl) (loadOK_row (λ_=>by kernel_rfl) (λ_=>by kernel_rfl) q96) (.nil))) h
end moraineref10_Heap_Object

/-! (*moraine/moraineref10.Heap).Get -/
namespace moraineref10_Heap_Get
def K0:=Func.code Tryz.f95
end moraineref10_Heap_Get
def moraineref10_Heap_Get.pt(hv:Option Addr)(wv a i:Int)(H:Array Obj)(R:Value->Array Obj->Prop):Prop:=
 moraineref10_Heap_Field.C hv wv a i H (λv H1=> ∃ra rb:Int,v=.tuple #[.int .i64 ra,.int .i64 rb]/\
 if rb=0 then(
 ∃k:Addr,hv=some k/\
 ∃x:Option Addr,hat H1 k=some (.pointer x)/\
 ∃xA:Addr,x=some xA/\
 ∃f:Option Addr,hat H1 xA=some (.pointer f)/\
 ∃j:Addr,f=some j/\
 ∃e:Option Addr,hat H1 j=some (.pointer e)/\
 moraineref07_Mem_Read.C e ra H1 (λl H2=> ∃d b:Int,l=.tuple #[.int .u64 d,.int .i64 b]/\
 R (.tuple #[.int .u64 d,.int .i64 b]) H2))
 else
 R (.tuple #[.int .u64 0,.int .i64 rb]) H1)
namespace moraineref10_Heap_Get
theorem link{hv:Option Addr}{wv a i:Int}{H:Array Obj}{R:Value->Array Obj->Prop}(h:pt hv wv a i H R):C hv wv a i H R:=by
 refine T_en K0 37 Tryz.func95 ?_
 intro w0 Q hQ
 unfold pt at h
 refine T_su [(0,vp hv),(1,vu wv),(2,vi a),(3,vi i)]<| T_srz 0<| T_ed 2 [] []<| T_srz 1<| T_n 4 [(0,vp hv),(13,vp hv),(14,vu wv),(15,vi a),(16,vi i)] ?_
 refine T_c (some 17) h ?_;clear h
 rintro v H1 ⟨ra,rb,rfl,h⟩
 refine⟨[(0,vp hv),(17,.tuple #[vi ra,vi rb])],pk,?_⟩
 refine T_ed 5 [17] [(10,vi ra),(11,vi rb)]<| T_sz<| T_srz 2<| T_ed 2 [] [(21,.bool (rb !=0))] ?_
 by_cases c1:rb=0
 ·rw[if_pos c1]at h
  refine T_cFz 21 (bne_eq_false_iff_eq.mpr c1)<| T_kt<| T_srz 4<| T_n 1 [(10,vi ra),(23,vp hv)] ?_
  obtain⟨k,rfl,h⟩:=h
  refine T_nd 2 [23] [(25,vp (some k))] ?_
  obtain⟨x,q3,h⟩:=h
  refine T_l1 26 82 q3 [25] ?_
  obtain⟨xA,rfl,h⟩:=h
  refine T_nd 2 [26] [(28,vp (some xA))] ?_
  obtain⟨f,q4,h⟩:=h
  refine T_l1 29 79 q4 [28] ?_
  obtain⟨j,rfl,h⟩:=h
  refine T_nd 2 [29] [(31,vp (some j))] ?_
  obtain⟨e,q5,h⟩:=h
  refine T_l1 32 76 q5 [31]<| T_nd 1 [10] [(33,vi ra)] ?_
  refine T_c (some 34) h ?_;clear h
  rintro l H2 ⟨d,b,rfl,h⟩
  refine⟨[(34,.tuple #[vu d,vi b])],pk,?_⟩
  exact T_nr 4 [8,9] [vu d,vi b] hQ h
 rw[if_neg c1]at h
 exact T_cTz 21 (bne_iff_ne.mpr c1)<| T_srz 3<| T_nr 3 [8,9] [vu 0,vi rb] hQ h
end moraineref10_Heap_Get

/-! (*moraine/moraineref10.Heap).put -/
namespace moraineref10_Heap_put
def K0:=Func.code Tryz.f118
def K2:=cb K0
def K4:=cb K2
def K6:=cb K4
def K11:=ca K6
def K14:=cb K11
def K15:=ca K14
def K16:=ca K15
def K18:=cb K16
def K23:=ca K18
def K25:=ca K23
end moraineref10_Heap_put
def moraineref10_Heap_put.pt(hv:Option Addr)(f d:Int)(lB:Option Addr)(lN lC:Nat)(H:Array Obj)(R:Value->Array Obj->Prop):Prop:=
 ∃b:Addr,hv=some b/\
 ∃x:Option Addr,hat H b=some (.pointer x)/\
 ∃xA:Addr,x=some xA/\
 ∃n:Option Addr,hat H xA=some (.pointer n)/\
 moraineref08_Space_Alloc.C n 0 f (lN:Int) H (λv H1=> ∃ra rb:Int,v=.tuple #[.int .i64 ra,.int .i64 rb]/\
 if rb=0 then(
 ∃(q:Int->Array Obj->Prop) (m17:Int->Array Obj->Nat),q 0 H1/\ ∀(i:Int) (H2:Array Obj),q i H2->
 if i< (lN:Int)then(
 ∃s:Option Addr,hat H2 b=some (.pointer s)/\
 ∃j:Addr,s=some j/\
 ∃r:Option Addr,hat H2 j=some (.pointer r)/\
 ∃l:Addr,r=some l/\
 ∃m:Option Addr,hat H2 l=some (.pointer m)/\
 ∃e:Addr,lB=some e/\
 ((0:Int)<=i/\i< (lN:Int))/\
 ∃o:Int,hat H2 (e.add (Int.toNat i*1))=some (.int .u64 o)/\
 moraineref07_Mem_Write.C m (IntKind.wrap .i64 (ra+i)) o H2 (λz H3=> ∃y:Int,z=.int .i64 y/\
 (q (IntKind.wrap .i64 (i+1)) H3/\m17 (IntKind.wrap .i64 (i+1)) H3<m17 i H2)))
 else
 moraineref01_Word.C 2 d ra 0 0 H2 (λu H4=> ∃p:Int,u=.int .u64 p/\
 R (.tuple #[.int .u64 p,.int .i64 0]) H4))
 else
 R (.tuple #[.int .u64 0,.int .i64 rb]) H1)
namespace moraineref10_Heap_put
theorem link{hv:Option Addr}{f d:Int}{lB:Option Addr}{lN lC:Nat}{H:Array Obj}{R:Value->Array Obj->Prop}(h:pt hv f d lB lN lC H R):C hv f d lB lN lC H R:=by
 refine T_en K0 58 Tryz.func118 ?_
 intro w0 Q hQ
 unfold pt at h
 refine T_su [(0,vp hv),(1,vi f),(2,vi d),(3,vs lB lN lC)]<| T_srz 0<| T_ed 2 [] []<| T_srz 1<| T_nd 1 [] [(14,vp hv)] ?_
 obtain⟨b,rfl,h⟩:=h
 refine T_nd 2 [0,14] [(0,vp (some b)),(16,vp (some b))] ?_
 obtain⟨x,q1,h⟩:=h
 refine T_l1 17 82 q1 [16] ?_
 obtain⟨xA,rfl,h⟩:=h
 refine T_nd 2 [17] [(19,vp (some xA))] ?_
 obtain⟨n,q2,h⟩:=h
 refine T_l1 20 79 q2 [19]<| T_nd 3 [1] [(21,vi f),(23,vi lN)] ?_
 refine T_c (some 24) h ?_;clear h
 rintro v H1 ⟨ra,rb,rfl,h⟩
 refine T_pd [20,21,23] [(24,.tuple #[vi ra,vi rb])]<| T_ed 5 [24] [(10,vi ra),(11,vi rb)]<| T_sz<| T_srz 2<| T_ed 2 [] [(28,.bool (rb !=0))] ?_
 by_cases c3:rb=0
 ·rw[if_pos c3]at h
  refine T_cFz 28 (bne_eq_false_iff_eq.mpr c3)<| T_kt<| T_sz<| T_srz 4<| T_ed 1 [11,28] [(12,vi 0)]<| T_bz 0 ?_
  obtain⟨q,m17,i5,i6⟩:=h
  refine S_loop (x:=K16) (σ:=Int) (λs_=> [(0,vp (some b)),(2,vi d),(3,vs lB lN lC),(10,vi ra),(12,vi s_)]) (λs_ H=>q s_ H) (λs_ H=>m17 s_ H) (0:Int) (by kernel_rfl) i5 sk ?_
  rintro i H2 i7
  have h:=i6 i H2 i7
  refine T_su [(0,vp (some b)),(2,vi d),(3,vs lB lN lC),(10,vi ra),(12,vi i)]<| T_sz<| T_srz 5<| T_ed 4 [] [(33,.bool (decide (i< (lN:Int))))] ?_
  by_cases c8:i< (lN:Int)
  ·rw[if_pos c8]at h
   refine T_cTz 33 (decide_eq_true c8)<| T_kt<| T_sz<| T_bz 1 ?_
   obtain⟨s,q10,h⟩:=h
   obtain⟨j,rfl,h⟩:=h
   obtain⟨r,q11,h⟩:=h
   obtain⟨l,rfl,h⟩:=h
   obtain⟨m,q12,h⟩:=h
   obtain⟨e,rfl,h⟩:=h
   obtain⟨q13,h⟩:=h
   obtain⟨o,q14,h⟩:=h
   refine S_regionG 7 (Code.ops K25) [(17,b,[vp (some j)]),(17,j,[vp (some l)]),(17,l,[vp m]),(17,(e.add (Int.toNat i*1)),[vu o])] 18 (bv 18 0) (by kernel_rfl) (by kernel_rfl) (by kernel_rfl) (by kernel_rfl) (by kernel_rfl) (show FactsAt _ _ _ from⟨⟨q10,trivial⟩,⟨q11,trivial⟩,⟨q12,trivial⟩,⟨q14,trivial⟩,trivial⟩) ?_
   refine T_gp 0 (some 36) (vp (some b)) (bv 18 1) [(0,vp (some b)),(2,vi d),(3,vs (some e) lN lC),(10,vi ra),(12,vi i),(36,vp (some b))]<| T_gp1 1 37 (vp (some b)) (bv 18 3) [36]<| T_gp1 2 38 (vp (some b)) (bv 18 7) [37]<| T_g1 3 39 (vp (some j)) (bv 18 15) [38] (loadN 82 (vp (some b))) (held_one 17 (λ_=>by kernel_rfl) (List.Mem.head _) (.inl (by kernel_rfl)))<| T_gp1 4 40 (vp (some j)) (bv 18 31) [39]<| T_gp1 5 41 (vp (some j)) (bv 18 63) [40]<| T_g1 6 42 (vp (some l)) (bv 18 127) [41] (loadN 79 (vp (some j))) (held_one 17 (λ_=>by kernel_rfl) (List.Mem.tail _ (List.Mem.head _)) (.inl (by kernel_rfl)))<| T_gp1 7 43 (vp (some l)) (bv 18 255) [42]<| T_gp1 8 44 (vp (some l)) (bv 18 511) [43] ?_
   refine T_g1 9 45 (vp m) (bv 18 1023) [44] (loadN 76 (vp (some l))) (held_one 17 (λ_=>by kernel_rfl) (List.Mem.tail _ (List.Mem.tail _ (List.Mem.head _))) (.inl (by kernel_rfl)))<| T_gp1 10 46 (vi ra) (bv 18 2047) []<| T_gp1 11 47 (vi i) (bv 18 4095) []<| T_gp1 12 48 (vi (IntKind.wrap .i64 (ra+i))) (bv 18 8191) [46,47]<| T_gp1 13 49 (vs (some e) lN lC) (bv 18 16383) []<| T_gp1 14 50 (vi i) (bv 18 32767) []<| T_g1 15 51 (vp (some (e.add (Int.toNat i*1)))) (bv 18 65535) [49,50] (indexAtN 31 (vs (some e) lN lC) (vi i)) (λ_ w _ _ _=>indexAt_run (P:=Tryz.prog) (t:=31) (elem:=35) (sz:=1) (a:=e) (len:=lN) (cap:=lC) (k:=.i64) (i:=i) Tryz.underlying31 (λ_=>by kernel_rfl) q13.1 q13.2 w)<| T_g1 16 52 (vu o) (bv 18 131071) [51] (loadN 35 (vp (some (e.add (Int.toNat i*1))))) (held_one 17 (λ_=>by kernel_rfl) (List.Mem.tail _ (List.Mem.tail _ (List.Mem.tail _ (List.Mem.head _)))) (.inl (by kernel_rfl))) ?_
   refine G_call 17 (some 53) (bv 18 262143) 166 #[vp m,vi (IntKind.wrap .i64 (ra+i)),vu o] (by kernel_rfl) (λ_=>by kernel_rfl) h (by kernel_rfl) ?_;clear h
   rintro z H3 ⟨y,rfl,h⟩
   refine⟨[(0,vp (some b)),(2,vi d),(3,vs (some e) lN lC),(10,vi ra),(12,vi i)],pk,(show FactsAt _ _ _ from⟨trivial,trivial,trivial,trivial,trivial⟩),?_⟩
   refine G_sub [(0,vp (some b)),(2,vi d),(3,vs (some e) lN lC),(10,vi ra),(12,vi i)] sk ?_
   refine G_end (by kernel_rfl) ?_
   refine S_blockEnd ?_
   refine S_then ?_
   refine T_rz 6<| T_ne 3 [(0,vp (some b)),(2,vi d),(3,vs (some e) lN lC),(10,vi ra),(12,vi (IntKind.wrap .i64 (i+1)))] ?_
   exact S_round ((IntKind.wrap .i64 (i+1)):Int) sk h
  rw[if_neg c8]at h
  refine T_cFz 33 (decide_eq_false c8) ?_
  refine S_exit 0 (by kernel_rfl) ?_
  refine S_exitThen ?_
  refine S_exitThen ?_
  refine S_exitHere ?_
  refine S_then ?_
  refine T_srz 8<| T_n 3 [(56,.agg #[vi 2,vi d,vi ra,vi 0,vu 0])] ?_
  refine T_c (some 57) h ?_;clear h
  rintro u H4 ⟨p,rfl,h⟩
  refine⟨[(57,vu p)],pk,?_⟩
  exact T_nr 2 [8,9] [vu p,vi 0] hQ h
 rw[if_neg c3]at h
 exact T_cTz 28 (bne_iff_ne.mpr c3)<| T_srz 3<| T_nr 3 [8,9] [vu 0,vi rb] hQ h
end moraineref10_Heap_put

/-! (*moraine/moraineref10.Heap).Field -/
namespace moraineref10_Heap_Field
def K0:=Func.code Tryz.f121
end moraineref10_Heap_Field
def moraineref10_Heap_Field.pt(hv:Option Addr)(wv a i:Int)(H:Array Obj)(R:Value->Array Obj->Prop):Prop:=
 moraineref10_Heap_Object.C hv wv H (λv H1=> ∃ra e f j k d:Int,v=.tuple #[.int .i64 ra,.agg #[.int .i64 e,.int .i64 f,.int .i64 j,.int .i64 k,.int .u64 d]]/\
 ∀(b:Nat) (H2:Array Obj),b=H1.size->H2=H1.push (.cells #[.int .i64 0,.int .i64 0,.int .i64 0,.int .i64 0,.int .u64 0] 155)->
 (CanPuts H2 (ad b) 0 5)/\ ∀H3,H3=hputs H2 (ad b) [.int .i64 e,.int .i64 f,.int .i64 j,.int .i64 k,.int .u64 d] 0->
 if ra<0 then(
 R (.tuple #[.int .i64 0,.int .i64 3]) H3)
 else
 ∃x:Int,hat H3 ((ad b).add 1)=some (.int .i64 x)/\
 if x=a then(
 if i<0 then(
 R (.tuple #[.int .i64 0,.int .i64 4]) H3)
 else
 ∃l:Int,hat H3 ((ad b).add 2)=some (.int .i64 l)/\
 if i>=l then(
 R (.tuple #[.int .i64 0,.int .i64 4]) H3)
 else
 R (.tuple #[.int .i64 (IntKind.wrap .i64 ((IntKind.wrap .i64 (ra+1))+i)),.int .i64 0]) H3)
 else
 R (.tuple #[.int .i64 0,.int .i64 3]) H3)
namespace moraineref10_Heap_Field
theorem link{hv:Option Addr}{wv a i:Int}{H:Array Obj}{R:Value->Array Obj->Prop}(h:pt hv wv a i H R):C hv wv a i H R:=by
 refine T_en K0 38 Tryz.func121 ?_
 intro w0 Q hQ
 unfold pt at h
 refine T_su [(0,vp hv),(1,vu wv),(2,vi a),(3,vi i)]<| T_srz 0<| T_ed 2 [] []<| T_srz 1<| T_nd 2 [0,1] [(13,vp hv),(14,vu wv)] ?_
 refine T_c (some 15) h ?_;clear h
 rintro v H1 ⟨ra,e,f,j,k,d,rfl,h⟩
 refine T_pd [13,14] [(15,.tuple #[vi ra,.agg #[vi e,vi f,vi j,vi k,vu d]])]<| T_nd 3 [15] [(16,vi ra),(17,.agg #[vi e,vi f,vi j,vi k,vu d])]<| T_nw (some 11) (λb=>vp (pa b)) (.cells #[vi 0,vi 0,vi 0,vi 0,vu 0] 155) ?_
 intro b H2 e1 e2
 replace h:=h b H2 e1 e2
 refine T_pd [] [(11,vp (pa b))]<| T_nd 1 [16] [(10,vi ra)] ?_
 obtain⟨q4,h⟩:=h
 refine T_sta 155 [vi e,vi f,vi j,vi k,vu d] q4 ?_
 intro H3 e3
 replace h:=h H3 e3
 refine T_pd [17] []<| T_e<| T_sz<| T_srz 2<| T_nd 3 [] [(20,.bool (decide (ra<0)))] ?_
 by_cases c5:ra<0
 ·rw[if_pos c5]at h
  exact N_bd 20 (decide_eq_true c5)<| T_ed 5 [2,20] [(25,.bool true)]<| T_tz 25<| T_srz 3<| T_nr 2 [8,9] [vi 0,vi 3] hQ h
 rw[if_neg c5]at h
 refine N_bd 20 (decide_eq_false c5)<| T_nd 1 [] [(21,vp (some ((ad b).add 1)))] ?_
 obtain⟨x,q7,h⟩:=h
 refine T_l1 22 3 q7 [21]<| T_ed 3 [2,20,22] [(25,.bool (x !=a))] ?_
 by_cases c8:x=a
 ·rw[if_pos c8]at h
  refine T_cFz 25 (bne_eq_false_iff_eq.mpr c8)<| T_kt<| T_sz<| T_srz 4<| T_nd 3 [25] [(28,.bool (decide (i<0)))] ?_
  by_cases c10:i<0
  ·rw[if_pos c10]at h
   exact N_bd 28 (decide_eq_true c10)<| T_ed 5 [11,28] [(33,.bool true)]<| T_tz 33<| T_srz 5<| T_nr 2 [8,9] [vi 0,vi 4] hQ h
  rw[if_neg c10]at h
  refine N_bd 28 (decide_eq_false c10)<| T_nd 2 [11] [(29,vi i),(30,vp (some ((ad b).add 2)))] ?_
  obtain⟨l,q12,h⟩:=h
  refine T_l1 31 3 q12 [30]<| T_ed 2 [28,29,31] [(33,.bool (decide (i>=l)))] ?_
  by_cases c13:i>=l
  ·rw[if_pos c13]at h
   exact T_cTz 33 (decide_eq_true c13)<| T_srz 5<| T_nr 2 [8,9] [vi 0,vi 4] hQ h
  rw[if_neg c13]at h
  exact T_cFz 33 (decide_eq_false c13)<| T_kt<| T_srz 6<| T_nr 6 [8,9] [vi (IntKind.wrap .i64 ((IntKind.wrap .i64 (ra+1))+i)),vi 0] hQ h
 rw[if_neg c8]at h
 exact T_cTz 25 (bne_iff_ne.mpr c8)<| T_srz 3<| T_nr 2 [8,9] [vi 0,vi 3] hQ h
end moraineref10_Heap_Field

end Go.Proofs.YtibpklpgmgakcaaGreat
