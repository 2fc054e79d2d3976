/-
 Written by a program of mine (gen.py): for functions of this translation a predicate transformer over heaps (.pt), and the proof that it is sound for the call (.link).
-/
import Derived.Test.YtgnokbjknicahaaGreatFnsC
set_option linter.unusedSimpArgs false
set_option linter.unusedVariables false
set_option maxRecDepth 100000
set_option maxHeartbeats 1000000
noncomputable section
namespace Go.Proofs.YtgnokbjknicahaaGreat
open Go
/-! moraine/morainelaw13.GcOlder -/
namespace morainelaw13_GcOlder
def kk0:=Func.code Tryz.f7
def kk1:=Code.fa kk0
def kk2:=Code.fb kk0
def kk3:=Code.fa kk2
def kk4:=Code.fb kk2
def kk5:=Code.fa kk4
def kk6:=Code.fb kk4
def kk7:=Code.fa kk5
def kk8:=Code.fb kk5
def kk9:=Code.fa kk8
def kk10:=Code.fb kk8
def kk11:=Code.fa kk9
def kk12:=Code.fb kk9
def kk13:=Code.fa kk6
def kk14:=Code.fb kk6
def kk15:=Code.fa kk14
def kk16:=Code.fb kk14
def kk17:=Code.fa kk16
def kk18:=Code.fb kk16
def kk19:=Code.fa kk18
def kk20:=Code.fb kk18
def kk21:=Code.fa kk19
def kk22:=Code.fb kk19
def kk23:=Code.fa kk22
def kk24:=Code.fa kk23
def kk25:=Code.fa kk24
def kk26:=Code.fb kk24
def kk27:=Code.fa kk25
def kk28:=Code.fb kk25
def kk29:=Code.fa kk28
def kk30:=Code.fb kk28
def kk31:=Code.fa kk26
def kk32:=Code.fb kk26
def kk33:=Code.fa kk31
def kk34:=Code.fa kk33
def kk35:=Code.fb kk33
def kk36:=Code.fa kk35
def kk37:=Code.fb kk35
def kk38:=Code.fa kk37
def kk39:=Code.fa kk38
def kk40:=Code.fa kk39
def kk41:=Code.fb kk39
def kk42:=Code.fa kk40
def kk43:=Code.fb kk40
def kk44:=Code.fa kk43
def kk45:=Code.fb kk43
def kk46:=Code.fa kk41
def kk47:=Code.fb kk41
def kk48:=Code.fa kk46
def kk49:=Code.fa kk20
def kk50:=Code.fb kk20
def kk51:=Code.fa kk50
def kk52:=Code.fb kk50
def kk53:=Code.fa kk52
def kk54:=Code.fb kk52
def kk55:=Code.fa kk53
def kk56:=Code.fb kk53
def kk57:=Code.fa kk56
def kk58:=Code.fa kk57
def kk59:=Code.fa kk58
def kk60:=Code.fb kk58
def kk61:=Code.fa kk60
def kk62:=Code.fb kk60
def kk63:=Code.fa kk61
def kk64:=Code.fb kk61
def kk65:=Code.fa kk62
def kk66:=Code.fa kk65
def kk67:=Code.fb kk65
def kk68:=Code.fa kk67
def kk69:=Code.fb kk67
def kk70:=Code.fa kk69
def kk71:=Code.fb kk69
def kk72:=Code.fa kk71
def kk73:=Code.fb kk71
def kk74:=Code.fa kk72
def kk75:=Code.fb kk72
def kk76:=Code.fa kk75
def kk77:=Code.fb kk75
def kk78:=Code.fa kk76
def kk79:=Code.fb kk76
def kk80:=Code.fa kk73
def kk81:=Code.fb kk73
def kk82:=Code.fa kk81
def kk83:=Code.fb kk81
def kk84:=Code.fa kk83
def kk85:=Code.fb kk83
def kk86:=Code.fa kk84
def kk87:=Code.fb kk84
def kk88:=Code.fa kk54
def kk89:=Code.fb kk54
end morainelaw13_GcOlder
def morainelaw13_GcOlder.pt(b6:Int)(lB:Option Addr)(lN lC:Nat)(H:Array Obj)(R:Value->Array Obj->Prop):Prop:=
 morainelaw13_begun.C b6 lB lN lC H (λv H1=> ∃(ra j:Option Addr) (m l:Nat),v=.tuple #[.pointer ra,.slice j m l]/\
 onPtr ra (
 morainelaw13_awake.C H1 (λd2 H2=> ∃x:Bool,d2=.bool x/\
 R (.bool x) H2)) (λd=>
 if(lN:Int)=0 then(
 morainelaw13_awake.C H1 (λd1 H3=> ∃c3:Bool,d1=.bool c3/\
 R (.bool c3) H3))
 else
 ∃cp:Addr,lB=some cp/\
 ((0:Int)<=(IntKind.wrap .i64 ((lN:Int)-1))/\(IntKind.wrap .i64 ((lN:Int)-1))< (lN:Int))/\
 ∃(bn:Option Addr) (bl bm:Nat) (a5:Option Addr) (a4 a3:Nat) (ap:Option Addr) (an ao:Nat) (xG a2 b1:Int),RowAt H1 (cp.add (Int.toNat (IntKind.wrap .i64 ((lN:Int)-1))*6)) 0 [.slice bn bl bm,.slice a5 a4 a3,.slice ap an ao,.int .i64 xG,.int .i64 a2,.int .u32 b1]/\
 ∀(b:Nat) (H4:Array Obj),b=H1.size->H4=H1.push (.cells #[.slice none 0 0,.slice none 0 0,.slice none 0 0,.int .i64 0,.int .i64 0,.int .u32 0] 55)->
 (CanPuts H4 (ad b) 0 6)/\ ∀H5,H5=hputs H4 (ad b) [.slice bn bl bm,.slice a5 a4 a3,.slice ap an ao,.int .i64 xG,.int .i64 a2,.int .u32 b1] 0->
 ∀(f:Nat) (H6:Array Obj),f=H5.size->H6=H5.push (.map #[] 0)->
 ∃c6:Option Addr,hat H6 d=some (.pointer c6)/\
 ∃c7:Addr,c6=some c7/\
 ∃c8:Option Addr,hat H6 c7=some (.pointer c8)/\
 ∃dc:Addr,c8=some dc/\
 ∃c2:Option Addr,hat H6 dc=some (.pointer c2)/\
 seg_Mem_Taken.C c2 none 0 0 H6 (λd7 H7=> ∃(xB:Option Addr) (xN xC:Nat),d7=.slice xB xN xC/\
 ∃(cq:Int->Array Obj->Prop) (m25:Int->Array Obj->Nat),cq 0 H7/\ ∀(i:Int) (H8:Array Obj),cq i H8->
 if i< (xN:Int)then(
 ∃dp:Option Addr,hat H8 d=some (.pointer dp)/\
 ∃bx:Addr,dp=some bx/\
 ∃dx:Option Addr,hat H8 bx=some (.pointer dx)/\
 ∃bz:Addr,dx=some bz/\
 ∃b4:Option Addr,hat H8 bz=some (.pointer b4)/\
 ∃g:Addr,xB=some g/\
 ((0:Int)<=i/\i< (xN:Int))/\
 ∃ch:Int,hat H8 (g.add (Int.toNat i*1))=some (.int .i64 ch)/\
 (
 seg_Mem_Seg.C b4 ch H8 (λd0 H9=> ∃(aw al b0 ah ag ai af:Int) (rb:Bool),d0=.tuple #[.agg #[.int .i64 aw,.int .i64 al,.int .i64 b0,.int .i64 ah,.int .i64 ag,.int .i64 ai,.int .i64 af],.bool rb]/\
 ∀(u:Nat) (H10:Array Obj),u=H9.size->H10=H9.push (.cells #[.int .i64 0,.int .i64 0,.int .i64 0,.int .i64 0,.int .i64 0,.int .i64 0,.int .i64 0] 76)->
 (CanPuts H10 (ad u) 0 7)/\ ∀di,di=hputs H10 (ad u) [.int .i64 aw,.int .i64 al,.int .i64 b0,.int .i64 ah,.int .i64 ag,.int .i64 ai,.int .i64 af] 0->
 ∃(c9:Int->Array Obj->Prop) (m40:Int->Array Obj->Nat),c9 0 di/\ ∀(k:Int) (H12:Array Obj),c9 k H12->
 ∃b9:Int,hat H12 ((ad u).add 2)=some (.int .i64 b9)/\
 if k<b9 then(
 ∃b5:Int,hat H12 (ad u)=some (.int .i64 b5)/\
 ∃ce:Int,hat H12 ((ad b).add 3)=some (.int .i64 ce)/\
 if b5>ce then(
 ((0:Int)<=i/\i< (xN:Int))/\
 ∃ac:Int,hat H12 (g.add (Int.toNat i*1))=some (.int .i64 ac)/\
 ∃df:Option Addr,hat H12 d=some (.pointer df)/\
 ∃bk:Addr,df=some bk/\
 ∃de:Option Addr,hat H12 bk=some (.pointer de)/\
 ∃bh:Addr,de=some bh/\
 ∃bi:Option Addr,hat H12 bh=some (.pointer bi)/\
 ((0:Int)<=i/\i< (xN:Int))/\
 ∃bq:Int,hat H12 (g.add (Int.toNat i*1))=some (.int .i64 bq)/\
 seg_Mem_Read.C bi (IntKind.wrap .i64 ((IntKind.wrap .i64 (64*bq))+k)) H12 (λd3 c4=> ∃ba cd:Int,d3=.tuple #[.int .u64 ba,.int .i64 cd]/\RowAt c4 (g.add (Int.toNat i*1)) 0 [.int .i64 ac]/\
 ∃(es:Array MapEntry) (cl:Nat) (ks:List (Int×Value)),c4[f]?=some (.map es cl)/\Ents (intKey .i64) es.toList ks/\
 ∀(cr:Array MapEntry) (cl_2:Nat) (H14:Array Obj),H14=setBlk c4 f (.map cr cl_2)->Ents (intKey .i64) cr.toList (mput ks (IntKind.wrap .i64 ((IntKind.wrap .i64 (64*ac))+k)) (.int .u64 ba))->(Born es cl->Born cr cl_2)->
 (c9 (IntKind.wrap .i64 (k+1)) H14/\m40 (IntKind.wrap .i64 (k+1)) H14<m40 k H12)))
 else
 (cq (IntKind.wrap .i64 (i+1)) H12/\m25 (IntKind.wrap .i64 (i+1)) H12<m25 i H8))
 else
 (cq (IntKind.wrap .i64 (i+1)) H12/\m25 (IntKind.wrap .i64 (i+1)) H12<m25 i H8)))/\(
 ∀(r:Nat) (H15:Array Obj),r=H8.size->H15=H8.push (.cells #[.int .i64 0,.int .i64 0,.int .i64 0,.int .i64 0,.int .i64 0,.int .i64 0,.int .i64 0] 76)->RowAt H15 d 0 [.pointer (some bx)]/\RowAt H15 bx 0 [.pointer (some bz)]/\RowAt H15 bz 0 [.pointer b4]/\RowAt H15 (g.add (Int.toNat i*1)) 0 [.int .i64 ch]/\
 seg_Mem_Seg.C b4 ch H15 (λd5 dj=> ∃(ak aj ax y aa z ab:Int) (bt:Bool),d5=.tuple #[.agg #[.int .i64 ak,.int .i64 aj,.int .i64 ax,.int .i64 y,.int .i64 aa,.int .i64 z,.int .i64 ab],.bool bt]/\
 (CanPuts dj (ad r) 0 7)/\ ∀dn,dn=hputs dj (ad r) [.int .i64 ak,.int .i64 aj,.int .i64 ax,.int .i64 y,.int .i64 aa,.int .i64 z,.int .i64 ab] 0->
 ∃(c5:Int->Array Obj->Prop) (m49:Int->Array Obj->Nat),c5 0 dn/\ ∀(o:Int) (H18:Array Obj),c5 o H18->
 ∃cc:Int,hat H18 ((ad r).add 2)=some (.int .i64 cc)/\
 if o<cc then(
 ∃b3:Int,hat H18 (ad r)=some (.int .i64 b3)/\
 ∃cg:Int,hat H18 ((ad b).add 3)=some (.int .i64 cg)/\
 if b3>cg then(
 ((0:Int)<=i/\i< (xN:Int))/\
 ∃ae:Int,hat H18 (g.add (Int.toNat i*1))=some (.int .i64 ae)/\
 ∃dg:Option Addr,hat H18 d=some (.pointer dg)/\
 ∃bg:Addr,dg=some bg/\
 ∃dd:Option Addr,hat H18 bg=some (.pointer dd)/\
 ∃bf:Addr,dd=some bf/\
 ∃bp:Option Addr,hat H18 bf=some (.pointer bp)/\
 ((0:Int)<=i/\i< (xN:Int))/\
 ∃bd:Int,hat H18 (g.add (Int.toNat i*1))=some (.int .i64 bd)/\
 seg_Mem_Read.C bp (IntKind.wrap .i64 ((IntKind.wrap .i64 (64*bd))+o)) H18 (λd6 da=> ∃bb b8:Int,d6=.tuple #[.int .u64 bb,.int .i64 b8]/\RowAt da (g.add (Int.toNat i*1)) 0 [.int .i64 ae]/\
 ∃(cy:Array MapEntry) (cl_3:Nat) (ks_2:List (Int×Value)),da[f]?=some (.map cy cl_3)/\Ents (intKey .i64) cy.toList ks_2/\
 ∀(cu:Array MapEntry) (cl_4:Nat) (H20:Array Obj),H20=setBlk da f (.map cu cl_4)->Ents (intKey .i64) cu.toList (mput ks_2 (IntKind.wrap .i64 ((IntKind.wrap .i64 (64*ae))+o)) (.int .u64 bb))->(Born cy cl_3->Born cu cl_4)->
 (c5 (IntKind.wrap .i64 (o+1)) H20/\m49 (IntKind.wrap .i64 (o+1)) H20<m49 o H18)))
 else
 (cq (IntKind.wrap .i64 (i+1)) H18/\m25 (IntKind.wrap .i64 (i+1)) H18<m25 i H8))
 else
 (cq (IntKind.wrap .i64 (i+1)) H18/\m25 (IntKind.wrap .i64 (i+1)) H18<m25 i H8))))
 else
 ∃(bc:Option Addr) (a8 a9:Nat) (ay:Option Addr) (a1 az:Nat) (au:Option Addr) (aq av:Nat) (cj a0 bu:Int),RowAt H8 (ad b) 0 [.slice bc a8 a9,.slice ay a1 az,.slice au aq av,.int .i64 cj,.int .i64 a0,.int .u32 bu]/\
 morainelaw13_roots.C (some d) bc a8 a9 ay a1 az au aq av cj a0 bu j m l H8 (λdz dm=> ∃(bj:Option Addr) (be br:Nat),dz=.slice bj be br/\
 ∃bw:Int,hat dm ((ad b).add 3)=some (.int .i64 bw)/\
 ∃b7:Int,hat dm ((ad b).add 4)=some (.int .i64 b7)/\
 morainelaw13_pointers.C bj be br dm (λdw dl=> ∃(cz:Option Addr) (cw cs:Nat),dw=.slice cz cw cs/\RowAt dl ((ad b).add 3) 0 [.int .i64 bw]/\RowAt dl ((ad b).add 4) 0 [.int .i64 b7]/\
 gc_Collect.C (some d) bw b7 cz cw cs dl (λdt dk=> ∃n:Int,dt=.int .i64 n/\
 ∃(dv:Array MapEntry) (cl_5:Nat),dk[f]?=some (.map dv cl_5)/\
 ∀(p:Nat) (H24:Array Obj),p=dk.size->H24=dk.push (.mapIter (some f) cl_5 #[] cl_5)->
 ∃(db:Array Obj->Prop) (m59:Array Obj->Nat),db H24/\ ∀(cn:Array Obj),db cn->
 ∃(mr:Nat) (es_6:Array MapEntry) (cl_6:Nat) (seen:Array Nat),cn[p]?=some (.mapIter (some mr) cl_6 seen cl_6)/\cn[mr]?=some (.map es_6 cl_6)/\Born es_6 cl_6/\
 (∀(en:MapEntry) (H26:Array Obj),en∈es_6.toList->en.born ∉ seen.toList->H26=setBlk cn p (.mapIter (some mr) cl_6 (seen.push en.born) cl_6)->
 ∃(dh:Nat) (es_7:Array MapEntry) (cl_7:Nat) (seen_2:Array Nat) (st:Nat) (ks_3:List (Int×Value)),H26[p]?=some (.mapIter (some dh) cl_7 seen_2 cl_7)/\H26[dh]?=some (.map es_7 cl_7)/\seen_2.back?=some st/\(∃e∈es_7.toList,e.born=st)/\Ents (intKey .i64) es_7.toList ks_3/\
 ∀(a6:Int) (val:Value),(a6,val)∈ks_3-> ∃ev:Int,val=.int .u64 ev/\
 ∃cx:Option Addr,hat H26 d=some (.pointer cx)/\
 ∃c0:Addr,cx=some c0/\
 ∃ct:Option Addr,hat H26 c0=some (.pointer ct)/\
 ∃cv:Addr,ct=some cv/\
 ∃ci:Option Addr,hat H26 cv=some (.pointer ci)/\
 seg_Mem_Read.C ci a6 H26 (λdr du=> ∃q bo:Int,dr=.tuple #[.int .u64 q,.int .i64 bo]/\
 ∃ck:Option Addr,hat du d=some (.pointer ck)/\
 card_Cards_Gen.C ck (ior .u64 (ishl .u64 (IntKind.wrap .u64 a6) 3) 1) du (λdq co=> ∃(am:Int) (bs:Bool),dq=.tuple #[.int .i64 am,.bool bs]/\
 if bo=0 then(
 if bs=true then(
 ∃a7:Int,hat co ((ad b).add 3)=some (.int .i64 a7)/\
 if((decide (am<=a7)) && (n==0))=true then(
 R (.bool false) co)
 else
 if((!((((iand .u64 ev 7)==1) || ((iand .u64 ev 7)==2)) || ((iand .u64 ev 7)==3))) && (q !=ev))=true then(
 R (.bool false) co)
 else
 (db co/\m59 co<m59 cn))
 else
 R (.bool false) co)
 else
 R (.bool false) co)))/\(
 morainelaw13_awake.C cn (λdy d4=> ∃cm:Bool,dy=.bool cm/\
 R (.bool cm) d4))))))))
namespace morainelaw13_GcOlder
theorem link{b6:Int}{lB:Option Addr}{lN lC:Nat}{H:Array Obj}{R:Value->Array Obj->Prop}(h:pt b6 lB lN lC H R):C b6 lB lN lC H R:=by
 refine S_enter (fn:=Tryz.f7) (c:=kk0) 204 Tryz.func7 (by kernel_rfl) (by kernel_rfl) (Nat.le_of_ble_eq_true (by kernel_rfl)) ?_
 intro w0 Q hQ
 unfold pt at h
 refine S_sub [(0,.int .i64 b6),(1,.slice lB lN lC)] (sb (by kernel_rfl)) ?_
 refine T_sr 0 kk1 kk2 ?_
 refine N_run 1 [(0,.int .i64 b6),(1,.slice lB lN lC)] (λ_=>by kernel_rfl) ?_
 refine T_e<| T_sr 1 kk3 kk4 ?_
 refine N_run 2 [(1,.slice lB lN lC),(24,.int .i64 b6),(25,.slice lB lN lC)] (λ_=>by kernel_rfl) ?_
 refine N_call (some 26) 16 #[.int .i64 b6,.slice lB lN lC] (λ_=>by kernel_rfl) h ?_;clear h
 rintro v H1 ⟨ra,j,m,l,rfl,h⟩
 refine⟨[(1,.slice lB lN lC),(26,.tuple #[.pointer ra,.slice j m l])],ps (by kernel_rfl),?_⟩
 refine N_run 5 [(1,.slice lB lN lC),(5,.pointer ra),(6,.slice j m l)] (λ_=>by kernel_rfl) ?_
 refine T_e ?_
 refine S_seq kk5 kk6 (by kernel_rfl) ?_
 refine T_sr 2 kk7 kk8 ?_
 refine N_run 1 [(1,.slice lB lN lC),(5,.pointer ra),(6,.slice j m l),(29,.pointer ra)] (λ_=>by kernel_rfl) ?_
 rcases ra with _ | d
 ·rw[onPtr_none]at h
  refine N_run 6 [(1,.slice lB lN lC),(5,.pointer none),(6,.slice j m l),(35,.bool true)] (λ_=>by kernel_rfl) ?_
  refine T_e ?_
  refine S_condT (.tmp 35) kk9 kk10 (by kernel_rfl) (by kernel_rfl) ?_
  refine T_sr 3 kk11 kk12 ?_
  refine N_sub [] (sb (by kernel_rfl)) ?_
  refine N_call (some 36) 14 #[] (λ_=>by kernel_rfl) h ?_;clear h
  rintro d2 H2 ⟨x,rfl,h⟩
  refine⟨[(36,.bool x)],ps (by kernel_rfl),?_⟩
  refine N_run 1 [(4,.bool x)] (λ_=>by kernel_rfl) ?_
  refine T_e ?_
  refine S_ret (by kernel_rfl) ?_
  show At _ _ _ _ _ (Q .ret)
  exact S_done (fn:=Tryz.f7) [.bool x] hQ (show ResOK _ _ _ [.tmp 4] _ from .tmp (by kernel_rfl) (.nil)) h
 ·rw[onPtr_some]at h
  refine N_run 6 [(1,.slice lB lN lC),(5,.pointer (some d)),(6,.slice j m l),(35,.bool ((lN:Int)==0))] (λ_=>by kernel_rfl) ?_
  refine T_e ?_
  by_cases c1:(lN:Int)=0
  ·rw[if_pos c1]at h
   have b2:((lN:Int)==0)=true:=beq_iff_eq.mpr c1
   refine S_env [(1,.slice lB lN lC),(5,.pointer (some d)),(6,.slice j m l),(35,.bool true)] (by simp only[b2,Bool.not_true,Bool.not_false]) ?_
   clear b2
   refine S_condT (.tmp 35) kk9 kk10 (by kernel_rfl) (by kernel_rfl) ?_
   refine T_sr 3 kk11 kk12 ?_
   refine N_sub [] (sb (by kernel_rfl)) ?_
   refine N_call (some 36) 14 #[] (λ_=>by kernel_rfl) h ?_;clear h
   rintro d1 H3 ⟨c3,rfl,h⟩
   refine⟨[(36,.bool c3)],ps (by kernel_rfl),?_⟩
   refine N_run 1 [(4,.bool c3)] (λ_=>by kernel_rfl) ?_
   refine T_e ?_
   refine S_ret (by kernel_rfl) ?_
   show At _ _ _ _ _ (Q .ret)
   exact S_done (fn:=Tryz.f7) [.bool c3] hQ (show ResOK _ _ _ [.tmp 4] _ from .tmp (by kernel_rfl) (.nil)) h
  ·rw[if_neg c1]at h
   have b2:((lN:Int)==0)=false:=beq_eq_false_iff_ne.mpr c1
   refine S_env [(1,.slice lB lN lC),(5,.pointer (some d)),(6,.slice j m l),(35,.bool false)] (by simp only[b2,Bool.not_true,Bool.not_false]) ?_
   clear b2
   refine S_condF (.tmp 35) kk9 kk10 (by kernel_rfl) (by kernel_rfl) ?_
   refine S_skip (by kernel_rfl) ?_
   refine S_then ?_
   refine T_sr 4 kk13 kk14 ?_
   refine N_run 4 [(5,.pointer (some d)),(6,.slice j m l),(37,.slice lB lN lC),(40,.int .i64 (IntKind.wrap .i64 ((lN:Int)-1)))] (λ_=>by kernel_rfl) ?_
   obtain⟨cp,rfl,h⟩:=h
   obtain⟨q3,h⟩:=h
   refine N_val (some 41) (indexAtN 47 (.slice (some cp) lN lC) (.int .i64 (IntKind.wrap .i64 ((lN:Int)-1)))) (.pointer (some (cp.add (Int.toNat (IntKind.wrap .i64 ((lN:Int)-1))*6)))) (λ_=>by kernel_rfl) (λw _=>indexAt_run (P:=Tryz.prog) (t:=47) (elem:=55) (sz:=6) (a:=cp) (len:=lN) (cap:=lC) (k:=.i64) (i:=(IntKind.wrap .i64 ((lN:Int)-1))) Tryz.underlying47 (λ_=>by kernel_rfl) q3.1 q3.2 w) [(5,.pointer (some d)),(6,.slice j m l),(41,.pointer (some (cp.add (Int.toNat (IntKind.wrap .i64 ((lN:Int)-1))*6))))] (ps (by kernel_rfl)) ?_
   obtain⟨bn,bl,bm,a5,a4,a3,ap,an,ao,xG,a2,b1,q4,h⟩:=h
   refine N_val (some 42) (loadN 55 (.pointer (some (cp.add (Int.toNat (IntKind.wrap .i64 ((lN:Int)-1))*6))))) (.agg #[.slice bn bl bm,.slice a5 a4 a3,.slice ap an ao,.int .i64 xG,.int .i64 a2,.int .u32 b1]) (λ_=>by kernel_rfl) (loadN_run (loadOK_row (λ_=>by kernel_rfl) (λ_=>by kernel_rfl) q4)) [(5,.pointer (some d)),(6,.slice j m l),(42,.agg #[.slice bn bl bm,.slice a5 a4 a3,.slice ap an ao,.int .i64 xG,.int .i64 a2,.int .u32 b1])] (ps (by kernel_rfl)) ?_
   refine N_new (some 7) (λb=> .pointer (some (ad b))) (.cells #[.slice none 0 0,.slice none 0 0,.slice none 0 0,.int .i64 0,.int .i64 0,.int .u32 0] 55) (λ_=>by kernel_rfl) ?_
   intro b H4 e5 e6
   replace h:=h b H4 e5 e6
   refine⟨[(5,.pointer (some d)),(6,.slice j m l),(7,.pointer (some (ad b))),(42,.agg #[.slice bn bl bm,.slice a5 a4 a3,.slice ap an ao,.int .i64 xG,.int .i64 a2,.int .u32 b1])],ps (by kernel_rfl),?_⟩
   obtain⟨q8,h⟩:=h
   refine N_skipop none (storeN 55 (.pointer (some (ad b))) (.agg #[.slice bn bl bm,.slice a5 a4 a3,.slice ap an ao,.int .i64 xG,.int .i64 a2,.int .u32 b1])) (λHz=>Hz=hputs H4 (ad b) [.slice bn bl bm,.slice a5 a4 a3,.slice ap an ao,.int .i64 xG,.int .i64 a2,.int .u32 b1] 0) (λ_=>by kernel_rfl) (ss_store [.slice bn bl bm,.slice a5 a4 a3,.slice ap an ao,.int .i64 xG,.int .i64 a2,.int .u32 b1] 6 (by kernel_rfl) (by kernel_rfl) (λ_=>by kernel_rfl) (by kernel_rfl) q8) ?_
   intro H5 e7
   replace h:=h H5 e7
   refine⟨[(5,.pointer (some d)),(6,.slice j m l),(7,.pointer (some (ad b)))],ps (by kernel_rfl),?_⟩
   refine T_e<| T_sr 5 kk15 kk16 ?_
   refine N_new (some 43) (λb=> .map (some b)) (.map #[] 0) (λ_=>by kernel_rfl) ?_
   intro f H6 e9 e10
   replace h:=h f H6 e9 e10
   refine⟨[(5,.pointer (some d)),(6,.slice j m l),(7,.pointer (some (ad b))),(43,.map (some f))],ps (by kernel_rfl),?_⟩
   refine N_run 1 [(5,.pointer (some d)),(6,.slice j m l),(7,.pointer (some (ad b))),(8,.map (some f))] (λ_=>by kernel_rfl) ?_
   refine T_e<| T_sr 6 kk17 kk18 ?_
   refine N_run 3 [(5,.pointer (some d)),(6,.slice j m l),(7,.pointer (some (ad b))),(8,.map (some f)),(46,.pointer (some d))] (λ_=>by kernel_rfl) ?_
   obtain⟨c6,q11,h⟩:=h
   refine N_val (some 47) (loadN 26 (.pointer (some d))) (.pointer c6) (λ_=>by kernel_rfl) (loadN_run (loadOK_one (λ_=>by kernel_rfl) q11)) [(5,.pointer (some d)),(6,.slice j m l),(7,.pointer (some (ad b))),(8,.map (some f)),(47,.pointer c6)] (ps (by kernel_rfl)) ?_
   obtain⟨c7,rfl,h⟩:=h
   refine N_run 2 [(5,.pointer (some d)),(6,.slice j m l),(7,.pointer (some (ad b))),(8,.map (some f)),(49,.pointer (some c7))] (λ_=>by kernel_rfl) ?_
   obtain⟨c8,q12,h⟩:=h
   refine N_val (some 50) (loadN 39 (.pointer (some c7))) (.pointer c8) (λ_=>by kernel_rfl) (loadN_run (loadOK_one (λ_=>by kernel_rfl) q12)) [(5,.pointer (some d)),(6,.slice j m l),(7,.pointer (some (ad b))),(8,.map (some f)),(50,.pointer c8)] (ps (by kernel_rfl)) ?_
   obtain⟨dc,rfl,h⟩:=h
   refine N_run 2 [(5,.pointer (some d)),(6,.slice j m l),(7,.pointer (some (ad b))),(8,.map (some f)),(52,.pointer (some dc))] (λ_=>by kernel_rfl) ?_
   obtain⟨c2,q13,h⟩:=h
   refine N_val (some 53) (loadN 69 (.pointer (some dc))) (.pointer c2) (λ_=>by kernel_rfl) (loadN_run (loadOK_one (λ_=>by kernel_rfl) q13)) [(5,.pointer (some d)),(6,.slice j m l),(7,.pointer (some (ad b))),(8,.map (some f)),(53,.pointer c2)] (ps (by kernel_rfl)) ?_
   refine N_call (some 54) 23 #[.pointer c2,.slice none 0 0] (λ_=>by kernel_rfl) h ?_;clear h
   rintro d7 H7 ⟨xB,xN,xC,rfl,h⟩
   refine⟨[(5,.pointer (some d)),(6,.slice j m l),(7,.pointer (some (ad b))),(8,.map (some f)),(54,.slice xB xN xC)],ps (by kernel_rfl),?_⟩
   refine N_run 1 [(5,.pointer (some d)),(6,.slice j m l),(7,.pointer (some (ad b))),(8,.map (some f)),(9,.slice xB xN xC)] (λ_=>by kernel_rfl) ?_
   refine T_e ?_
   refine S_seq kk19 kk20 (by kernel_rfl) ?_
   refine T_sr 7 kk21 kk22 ?_
   refine N_run 1 [(5,.pointer (some d)),(6,.slice j m l),(7,.pointer (some (ad b))),(8,.map (some f)),(9,.slice xB xN xC),(10,.int .i64 0)] (λ_=>by kernel_rfl) ?_
   refine T_e ?_
   refine S_block 0 kk23 (by kernel_rfl) ?_
   obtain⟨cq,m25,i14,i15⟩:=h
   refine S_loop (x:=kk24) (σ:=Int) (λs_=> [(5,.pointer (some d)),(6,.slice j m l),(7,.pointer (some (ad b))),(8,.map (some f)),(9,.slice xB xN xC),(10,.int .i64 s_)]) (λs_ H=>cq s_ H) (λs_ H=>m25 s_ H) (0:Int) (by kernel_rfl) i14 (sb (by kernel_rfl)) ?_
   rintro i H8 i16
   have h:=i15 i H8 i16
   refine S_sub [(5,.pointer (some d)),(6,.slice j m l),(7,.pointer (some (ad b))),(8,.map (some f)),(9,.slice xB xN xC),(10,.int .i64 i)] (sb (by kernel_rfl)) ?_
   refine S_seq kk25 kk26 (by kernel_rfl) ?_
   refine T_sr 8 kk27 kk28 ?_
   refine N_run 4 [(5,.pointer (some d)),(6,.slice j m l),(7,.pointer (some (ad b))),(8,.map (some f)),(9,.slice xB xN xC),(10,.int .i64 i),(58,.bool (decide (i< (xN:Int))))] (λ_=>by kernel_rfl) ?_
   refine T_e ?_
   by_cases c17:i< (xN:Int)
   ·rw[if_pos c17]at h
    have b18:(decide (i< (xN:Int)))=true:=decide_eq_true c17
    refine S_env [(5,.pointer (some d)),(6,.slice j m l),(7,.pointer (some (ad b))),(8,.map (some f)),(9,.slice xB xN xC),(10,.int .i64 i),(58,.bool true)] (by simp only[b18,Bool.not_true,Bool.not_false]) ?_
    clear b18
    refine S_condT (.tmp 58) kk29 kk30 (by kernel_rfl) (by kernel_rfl) ?_
    refine S_skip (by kernel_rfl) ?_
    refine S_then ?_
    refine S_seq kk31 kk32 (by kernel_rfl) ?_
    refine S_block 1 kk33 (by kernel_rfl) ?_
    refine S_seq kk34 kk35 (by kernel_rfl) ?_
    obtain⟨dp,q19,h⟩:=h
    obtain⟨bx,rfl,h⟩:=h
    obtain⟨dx,q20,h⟩:=h
    obtain⟨bz,rfl,h⟩:=h
    obtain⟨b4,q21,h⟩:=h
    obtain⟨g,rfl,h⟩:=h
    obtain⟨q22,h⟩:=h
    obtain⟨ch,q23,h⟩:=h
    refine S_regionG 10 (Code.ops kk34) [(14,d,[.pointer (some bx)]),(14,bx,[.pointer (some bz)]),(14,bz,[.pointer b4]),(14,(g.add (Int.toNat i*1)),[.int .i64 ch])] 21 #[false,false,false,false,false,false,false,false,false,false,false,false,false,false,false,false,false,false,false,false,false] (by kernel_rfl) (by kernel_rfl) (by kernel_rfl) (by kernel_rfl) (by kernel_rfl) (show FactsAt _ _ _ from⟨⟨q19,trivial⟩,⟨q20,trivial⟩,⟨q21,trivial⟩,⟨q23,trivial⟩,trivial⟩) ?_
    refine G_take 0 (some 62) (.pointer (some d)) #[true,false,false,false,false,false,false,false,false,false,false,false,false,false,false,false,false,false,false,false,false] [(5,.pointer (some d)),(6,.slice j m l),(7,.pointer (some (ad b))),(8,.map (some f)),(9,.slice (some g) xN xC),(10,.int .i64 i),(62,.pointer (some d))] ((pure (.value (.pointer (some d))):Sem Next)) (λ_=>by kernel_rfl) (λ_ _ _ _ _=>rfl) (by kernel_rfl) (by kernel_rfl) (by kernel_rfl) (by kernel_rfl) (by kernel_rfl) (by kernel_rfl) (ps (by kernel_rfl)) ?_
    refine G_take 1 (some 63) (.pointer (some d)) #[true,true,false,false,false,false,false,false,false,false,false,false,false,false,false,false,false,false,false,false,false] [(5,.pointer (some d)),(6,.slice j m l),(7,.pointer (some (ad b))),(8,.map (some f)),(9,.slice (some g) xN xC),(10,.int .i64 i),(63,.pointer (some d))] ((pure (.value (.pointer (some d))):Sem Next)) (λ_=>by kernel_rfl) (λ_ _ _ _ _=>rfl) (by kernel_rfl) (by kernel_rfl) (by kernel_rfl) (by kernel_rfl) (by kernel_rfl) (by kernel_rfl) (ps (by kernel_rfl)) ?_
    refine G_take 2 (some 64) (.pointer (some d)) #[true,true,true,false,false,false,false,false,false,false,false,false,false,false,false,false,false,false,false,false,false] [(5,.pointer (some d)),(6,.slice j m l),(7,.pointer (some (ad b))),(8,.map (some f)),(9,.slice (some g) xN xC),(10,.int .i64 i),(64,.pointer (some d))] ((pure (.value (.pointer (some d))):Sem Next)) (λ_=>by kernel_rfl) (λ_ _ _ _ _=>rfl) (by kernel_rfl) (by kernel_rfl) (by kernel_rfl) (by kernel_rfl) (by kernel_rfl) (by kernel_rfl) (ps (by kernel_rfl)) ?_
    refine G_take 3 (some 65) (.pointer (some bx)) #[true,true,true,true,false,false,false,false,false,false,false,false,false,false,false,false,false,false,false,false,false] [(5,.pointer (some d)),(6,.slice j m l),(7,.pointer (some (ad b))),(8,.map (some f)),(9,.slice (some g) xN xC),(10,.int .i64 i),(65,.pointer (some bx))] (loadN 26 (.pointer (some d))) (λ_=>by kernel_rfl) (held_one 14 (λ_=>by kernel_rfl) (List.Mem.head _) (.inl (by kernel_rfl))) (by kernel_rfl) (by kernel_rfl) (by kernel_rfl) (by kernel_rfl) (by kernel_rfl) (by kernel_rfl) (ps (by kernel_rfl)) ?_
    refine G_take 4 (some 66) (.pointer (some bx)) #[true,true,true,true,true,false,false,false,false,false,false,false,false,false,false,false,false,false,false,false,false] [(5,.pointer (some d)),(6,.slice j m l),(7,.pointer (some (ad b))),(8,.map (some f)),(9,.slice (some g) xN xC),(10,.int .i64 i),(66,.pointer (some bx))] ((pure (.value (.pointer (some bx))):Sem Next)) (λ_=>by kernel_rfl) (λ_ _ _ _ _=>rfl) (by kernel_rfl) (by kernel_rfl) (by kernel_rfl) (by kernel_rfl) (by kernel_rfl) (by kernel_rfl) (ps (by kernel_rfl)) ?_
    refine G_take 5 (some 67) (.pointer (some bx)) #[true,true,true,true,true,true,false,false,false,false,false,false,false,false,false,false,false,false,false,false,false] [(5,.pointer (some d)),(6,.slice j m l),(7,.pointer (some (ad b))),(8,.map (some f)),(9,.slice (some g) xN xC),(10,.int .i64 i),(67,.pointer (some bx))] ((pure (.value (.pointer (some bx))):Sem Next)) (λ_=>by kernel_rfl) (λ_ _ _ _ _=>rfl) (by kernel_rfl) (by kernel_rfl) (by kernel_rfl) (by kernel_rfl) (by kernel_rfl) (by kernel_rfl) (ps (by kernel_rfl)) ?_
    refine G_take 6 (some 68) (.pointer (some bz)) #[true,true,true,true,true,true,true,false,false,false,false,false,false,false,false,false,false,false,false,false,false] [(5,.pointer (some d)),(6,.slice j m l),(7,.pointer (some (ad b))),(8,.map (some f)),(9,.slice (some g) xN xC),(10,.int .i64 i),(68,.pointer (some bz))] (loadN 39 (.pointer (some bx))) (λ_=>by kernel_rfl) (held_one 14 (λ_=>by kernel_rfl) (List.Mem.tail _ (List.Mem.head _)) (.inl (by kernel_rfl))) (by kernel_rfl) (by kernel_rfl) (by kernel_rfl) (by kernel_rfl) (by kernel_rfl) (by kernel_rfl) (ps (by kernel_rfl)) ?_
    refine G_take 7 (some 69) (.pointer (some bz)) #[true,true,true,true,true,true,true,true,false,false,false,false,false,false,false,false,false,false,false,false,false] [(5,.pointer (some d)),(6,.slice j m l),(7,.pointer (some (ad b))),(8,.map (some f)),(9,.slice (some g) xN xC),(10,.int .i64 i),(69,.pointer (some bz))] ((pure (.value (.pointer (some bz))):Sem Next)) (λ_=>by kernel_rfl) (λ_ _ _ _ _=>rfl) (by kernel_rfl) (by kernel_rfl) (by kernel_rfl) (by kernel_rfl) (by kernel_rfl) (by kernel_rfl) (ps (by kernel_rfl)) ?_
    refine G_take 8 (some 70) (.pointer (some bz)) #[true,true,true,true,true,true,true,true,true,false,false,false,false,false,false,false,false,false,false,false,false] [(5,.pointer (some d)),(6,.slice j m l),(7,.pointer (some (ad b))),(8,.map (some f)),(9,.slice (some g) xN xC),(10,.int .i64 i),(70,.pointer (some bz))] ((pure (.value (.pointer (some bz))):Sem Next)) (λ_=>by kernel_rfl) (λ_ _ _ _ _=>rfl) (by kernel_rfl) (by kernel_rfl) (by kernel_rfl) (by kernel_rfl) (by kernel_rfl) (by kernel_rfl) (ps (by kernel_rfl)) ?_
    refine G_take 9 (some 71) (.pointer b4) #[true,true,true,true,true,true,true,true,true,true,false,false,false,false,false,false,false,false,false,false,false] [(5,.pointer (some d)),(6,.slice j m l),(7,.pointer (some (ad b))),(8,.map (some f)),(9,.slice (some g) xN xC),(10,.int .i64 i),(71,.pointer b4)] (loadN 69 (.pointer (some bz))) (λ_=>by kernel_rfl) (held_one 14 (λ_=>by kernel_rfl) (List.Mem.tail _ (List.Mem.tail _ (List.Mem.head _))) (.inl (by kernel_rfl))) (by kernel_rfl) (by kernel_rfl) (by kernel_rfl) (by kernel_rfl) (by kernel_rfl) (by kernel_rfl) (ps (by kernel_rfl)) ?_
    refine G_take 10 (some 72) (.slice (some g) xN xC) #[true,true,true,true,true,true,true,true,true,true,true,false,false,false,false,false,false,false,false,false,false] [(5,.pointer (some d)),(6,.slice j m l),(7,.pointer (some (ad b))),(8,.map (some f)),(9,.slice (some g) xN xC),(10,.int .i64 i),(71,.pointer b4),(72,.slice (some g) xN xC)] ((pure (.value (.slice (some g) xN xC)):Sem Next)) (λ_=>by kernel_rfl) (λ_ _ _ _ _=>rfl) (by kernel_rfl) (by kernel_rfl) (by kernel_rfl) (by kernel_rfl) (by kernel_rfl) (by kernel_rfl) (ps (by kernel_rfl)) ?_
    refine G_take 11 (some 73) (.int .i64 i) #[true,true,true,true,true,true,true,true,true,true,true,true,false,false,false,false,false,false,false,false,false] [(5,.pointer (some d)),(6,.slice j m l),(7,.pointer (some (ad b))),(8,.map (some f)),(9,.slice (some g) xN xC),(10,.int .i64 i),(71,.pointer b4),(72,.slice (some g) xN xC),(73,.int .i64 i)] ((pure (.value (.int .i64 i)):Sem Next)) (λ_=>by kernel_rfl) (λ_ _ _ _ _=>rfl) (by kernel_rfl) (by kernel_rfl) (by kernel_rfl) (by kernel_rfl) (by kernel_rfl) (by kernel_rfl) (ps (by kernel_rfl)) ?_
    refine G_take 12 (some 74) (.pointer (some (g.add (Int.toNat i*1)))) #[true,true,true,true,true,true,true,true,true,true,true,true,true,false,false,false,false,false,false,false,false] [(5,.pointer (some d)),(6,.slice j m l),(7,.pointer (some (ad b))),(8,.map (some f)),(9,.slice (some g) xN xC),(10,.int .i64 i),(71,.pointer b4),(74,.pointer (some (g.add (Int.toNat i*1))))] (indexAtN 67 (.slice (some g) xN xC) (.int .i64 i)) (λ_=>by kernel_rfl) (λ_ w _ _ _=>indexAt_run (P:=Tryz.prog) (t:=67) (elem:=3) (sz:=1) (a:=g) (len:=xN) (cap:=xC) (k:=.i64) (i:=i) Tryz.underlying67 (λ_=>by kernel_rfl) q22.1 q22.2 w) (by kernel_rfl) (by kernel_rfl) (by kernel_rfl) (by kernel_rfl) (by kernel_rfl) (by kernel_rfl) (ps (by kernel_rfl)) ?_
    refine G_take 13 (some 75) (.int .i64 ch) #[true,true,true,true,true,true,true,true,true,true,true,true,true,true,false,false,false,false,false,false,false] [(5,.pointer (some d)),(6,.slice j m l),(7,.pointer (some (ad b))),(8,.map (some f)),(9,.slice (some g) xN xC),(10,.int .i64 i),(71,.pointer b4),(75,.int .i64 ch)] (loadN 3 (.pointer (some (g.add (Int.toNat i*1))))) (λ_=>by kernel_rfl) (held_one 14 (λ_=>by kernel_rfl) (List.Mem.tail _ (List.Mem.tail _ (List.Mem.tail _ (List.Mem.head _)))) (.inl (by kernel_rfl))) (by kernel_rfl) (by kernel_rfl) (by kernel_rfl) (by kernel_rfl) (by kernel_rfl) (by kernel_rfl) (ps (by kernel_rfl)) ?_
    refine G_fork 14 18 (by kernel_rfl) ?_ ?_
    ·replace h:=h.1
     refine O_call 14 (some 76) #[true,true,true,true,true,true,true,true,true,true,true,true,true,true,true,false,false,false,false,false,false] 24 #[.pointer b4,.int .i64 ch] (by kernel_rfl) (λ_=>by kernel_rfl) h (by kernel_rfl) ?_;clear h
     rintro d0 H9 ⟨aw,al,b0,ah,ag,ai,af,rb,rfl,h⟩
     refine⟨[(5,.pointer (some d)),(6,.slice j m l),(7,.pointer (some (ad b))),(8,.map (some f)),(9,.slice (some g) xN xC),(10,.int .i64 i),(76,.tuple #[.agg #[.int .i64 aw,.int .i64 al,.int .i64 b0,.int .i64 ah,.int .i64 ag,.int .i64 ai,.int .i64 af],.bool rb])],ps (by kernel_rfl),(show FactsAt _ _ _ from⟨trivial,trivial,trivial,trivial,trivial⟩),?_⟩
     refine G_take 15 (some 61) (.tuple #[.agg #[.int .i64 aw,.int .i64 al,.int .i64 b0,.int .i64 ah,.int .i64 ag,.int .i64 ai,.int .i64 af],.bool rb]) #[true,true,true,true,true,true,true,true,true,true,true,true,true,true,true,true,false,false,false,false,false] [(5,.pointer (some d)),(6,.slice j m l),(7,.pointer (some (ad b))),(8,.map (some f)),(9,.slice (some g) xN xC),(10,.int .i64 i),(61,.tuple #[.agg #[.int .i64 aw,.int .i64 al,.int .i64 b0,.int .i64 ah,.int .i64 ag,.int .i64 ai,.int .i64 af],.bool rb])] (pure (.value (.tuple #[.agg #[.int .i64 aw,.int .i64 al,.int .i64 b0,.int .i64 ah,.int .i64 ag,.int .i64 ai,.int .i64 af],.bool rb])):Sem Next) (λ_=>by kernel_rfl) (λ_ _ _ _ _=>rfl) (by kernel_rfl) (by kernel_rfl) (by kernel_rfl) (by kernel_rfl) (by kernel_rfl) (by kernel_rfl) (ps (by kernel_rfl)) ?_
     refine G_take 16 (some 77) (.agg #[.int .i64 aw,.int .i64 al,.int .i64 b0,.int .i64 ah,.int .i64 ag,.int .i64 ai,.int .i64 af]) #[true,true,true,true,true,true,true,true,true,true,true,true,true,true,true,true,true,false,false,false,false] [(5,.pointer (some d)),(6,.slice j m l),(7,.pointer (some (ad b))),(8,.map (some f)),(9,.slice (some g) xN xC),(10,.int .i64 i),(61,.tuple #[.agg #[.int .i64 aw,.int .i64 al,.int .i64 b0,.int .i64 ah,.int .i64 ag,.int .i64 ai,.int .i64 af],.bool rb]),(77,.agg #[.int .i64 aw,.int .i64 al,.int .i64 b0,.int .i64 ah,.int .i64 ag,.int .i64 ai,.int .i64 af])] (pure (.value (.agg #[.int .i64 aw,.int .i64 al,.int .i64 b0,.int .i64 ah,.int .i64 ag,.int .i64 ai,.int .i64 af])):Sem Next) (λ_=>by kernel_rfl) (λ_ _ _ _ _=>rfl) (by kernel_rfl) (by kernel_rfl) (by kernel_rfl) (by kernel_rfl) (by kernel_rfl) (by kernel_rfl) (ps (by kernel_rfl)) ?_
     refine G_take 17 (some 78) (.bool rb) #[true,true,true,true,true,true,true,true,true,true,true,true,true,true,true,true,true,true,false,false,false] [(5,.pointer (some d)),(6,.slice j m l),(7,.pointer (some (ad b))),(8,.map (some f)),(9,.slice (some g) xN xC),(10,.int .i64 i),(77,.agg #[.int .i64 aw,.int .i64 al,.int .i64 b0,.int .i64 ah,.int .i64 ag,.int .i64 ai,.int .i64 af]),(78,.bool rb)] (pure (.value (.bool rb)):Sem Next) (λ_=>by kernel_rfl) (λ_ _ _ _ _=>rfl) (by kernel_rfl) (by kernel_rfl) (by kernel_rfl) (by kernel_rfl) (by kernel_rfl) (by kernel_rfl) (ps (by kernel_rfl)) ?_
     refine G_new 18 (some 11) #[true,true,true,true,true,true,true,true,true,true,true,true,true,true,true,true,true,true,true,false,false] (λb=> .pointer (some (ad b))) (.cells #[.int .i64 0,.int .i64 0,.int .i64 0,.int .i64 0,.int .i64 0,.int .i64 0,.int .i64 0] 76) (by kernel_rfl) (λ_=>by kernel_rfl) (by kernel_rfl) ?_
     intro u H10 e24 e25
     replace h:=h u H10 e24 e25
     refine⟨[(5,.pointer (some d)),(6,.slice j m l),(7,.pointer (some (ad b))),(8,.map (some f)),(9,.slice (some g) xN xC),(10,.int .i64 i),(11,.pointer (some (ad u))),(77,.agg #[.int .i64 aw,.int .i64 al,.int .i64 b0,.int .i64 ah,.int .i64 ag,.int .i64 ai,.int .i64 af]),(78,.bool rb)],ps (by kernel_rfl),(show FactsAt _ _ _ from⟨trivial,trivial,trivial,trivial,trivial⟩),?_⟩
     obtain⟨q27,h⟩:=h
     refine G_onlyskip 19 none #[true,true,true,true,true,true,true,true,true,true,true,true,true,true,true,true,true,true,true,true,false] (storeN 76 (.pointer (some (ad u))) (.agg #[.int .i64 aw,.int .i64 al,.int .i64 b0,.int .i64 ah,.int .i64 ag,.int .i64 ai,.int .i64 af])) (λHz=>Hz=hputs H10 (ad u) [.int .i64 aw,.int .i64 al,.int .i64 b0,.int .i64 ah,.int .i64 ag,.int .i64 ai,.int .i64 af] 0) (by kernel_rfl) (λ_=>by kernel_rfl) (ss_store [.int .i64 aw,.int .i64 al,.int .i64 b0,.int .i64 ah,.int .i64 ag,.int .i64 ai,.int .i64 af] 7 (by kernel_rfl) (by kernel_rfl) (λ_=>by kernel_rfl) (by kernel_rfl) q27) (by kernel_rfl) ?_
     intro di e26
     replace h:=h di e26
     refine⟨[(5,.pointer (some d)),(6,.slice j m l),(7,.pointer (some (ad b))),(8,.map (some f)),(9,.slice (some g) xN xC),(10,.int .i64 i),(11,.pointer (some (ad u))),(78,.bool rb)],ps (by kernel_rfl),(show FactsAt _ _ _ from⟨trivial,trivial,trivial,trivial,trivial⟩),?_⟩
     refine G_take 20 (some 12) (.bool rb) #[true,true,true,true,true,true,true,true,true,true,true,true,true,true,true,true,true,true,true,true,true] [(5,.pointer (some d)),(6,.slice j m l),(7,.pointer (some (ad b))),(8,.map (some f)),(9,.slice (some g) xN xC),(10,.int .i64 i),(11,.pointer (some (ad u)))] (pure (.value (.bool rb)):Sem Next) (λ_=>by kernel_rfl) (λ_ _ _ _ _=>rfl) (by kernel_rfl) (by kernel_rfl) (by kernel_rfl) (by kernel_rfl) (by kernel_rfl) (by kernel_rfl) (ps (by kernel_rfl)) ?_
     refine G_sub [(5,.pointer (some d)),(6,.slice j m l),(7,.pointer (some (ad b))),(8,.map (some f)),(9,.slice (some g) xN xC),(10,.int .i64 i),(11,.pointer (some (ad u)))] (sb (by kernel_rfl)) ?_
     refine G_end (by kernel_rfl) ?_
     refine S_then ?_
     refine T_sr 11 kk36 kk37 ?_
     refine N_run 1 [(5,.pointer (some d)),(6,.slice j m l),(7,.pointer (some (ad b))),(8,.map (some f)),(9,.slice (some g) xN xC),(10,.int .i64 i),(11,.pointer (some (ad u))),(13,.int .i64 0)] (λ_=>by kernel_rfl) ?_
     refine T_e ?_
     refine S_block 2 kk38 (by kernel_rfl) ?_
     obtain⟨c9,m40,i28,i29⟩:=h
     refine S_loop (x:=kk39) (σ:=Int) (λs_=> [(5,.pointer (some d)),(6,.slice j m l),(7,.pointer (some (ad b))),(8,.map (some f)),(9,.slice (some g) xN xC),(10,.int .i64 i),(11,.pointer (some (ad u))),(13,.int .i64 s_)]) (λs_ H=>c9 s_ H) (λs_ H=>m40 s_ H) (0:Int) (by kernel_rfl) i28 (sb (by kernel_rfl)) ?_
     rintro k H12 i30
     have h:=i29 k H12 i30
     refine S_sub [(5,.pointer (some d)),(6,.slice j m l),(7,.pointer (some (ad b))),(8,.map (some f)),(9,.slice (some g) xN xC),(10,.int .i64 i),(11,.pointer (some (ad u))),(13,.int .i64 k)] (sb (by kernel_rfl)) ?_
     refine S_seq kk40 kk41 (by kernel_rfl) ?_
     refine T_sr 12 kk42 kk43 ?_
     refine N_run 2 [(5,.pointer (some d)),(6,.slice j m l),(7,.pointer (some (ad b))),(8,.map (some f)),(9,.slice (some g) xN xC),(10,.int .i64 i),(11,.pointer (some (ad u))),(13,.int .i64 k),(79,.int .i64 k),(80,.pointer (some ((ad u).add 2)))] (λ_=>by kernel_rfl) ?_
     obtain⟨b9,q31,h⟩:=h
     refine N_val (some 81) (loadN 3 (.pointer (some ((ad u).add 2)))) (.int .i64 b9) (λ_=>by kernel_rfl) (loadN_run (loadOK_one (λ_=>by kernel_rfl) q31)) [(5,.pointer (some d)),(6,.slice j m l),(7,.pointer (some (ad b))),(8,.map (some f)),(9,.slice (some g) xN xC),(10,.int .i64 i),(11,.pointer (some (ad u))),(13,.int .i64 k),(79,.int .i64 k),(81,.int .i64 b9)] (ps (by kernel_rfl)) ?_
     refine N_run 2 [(5,.pointer (some d)),(6,.slice j m l),(7,.pointer (some (ad b))),(8,.map (some f)),(9,.slice (some g) xN xC),(10,.int .i64 i),(11,.pointer (some (ad u))),(13,.int .i64 k),(83,.bool (decide (k<b9)))] (λ_=>by kernel_rfl) ?_
     by_cases c32:k<b9
     ·rw[if_pos c32]at h
      have b33:(decide (k<b9))=true:=decide_eq_true c32
      refine N_env [(5,.pointer (some d)),(6,.slice j m l),(7,.pointer (some (ad b))),(8,.map (some f)),(9,.slice (some g) xN xC),(10,.int .i64 i),(11,.pointer (some (ad u))),(13,.int .i64 k),(83,.bool true)] (by simp only[b33,Bool.not_true,Bool.not_false]) ?_
      clear b33
      refine N_run 1 [(5,.pointer (some d)),(6,.slice j m l),(7,.pointer (some (ad b))),(8,.map (some f)),(9,.slice (some g) xN xC),(10,.int .i64 i),(11,.pointer (some (ad u))),(13,.int .i64 k),(83,.bool true),(84,.pointer (some (ad u)))] (λ_=>by kernel_rfl) ?_
      obtain⟨b5,q34,h⟩:=h
      refine N_val (some 85) (loadN 3 (.pointer (some (ad u)))) (.int .i64 b5) (λ_=>by kernel_rfl) (loadN_run (loadOK_one (λ_=>by kernel_rfl) q34)) [(5,.pointer (some d)),(6,.slice j m l),(7,.pointer (some (ad b))),(8,.map (some f)),(9,.slice (some g) xN xC),(10,.int .i64 i),(11,.pointer (some (ad u))),(13,.int .i64 k),(83,.bool true),(85,.int .i64 b5)] (ps (by kernel_rfl)) ?_
      refine N_run 1 [(5,.pointer (some d)),(6,.slice j m l),(7,.pointer (some (ad b))),(8,.map (some f)),(9,.slice (some g) xN xC),(10,.int .i64 i),(11,.pointer (some (ad u))),(13,.int .i64 k),(83,.bool true),(85,.int .i64 b5),(86,.pointer (some ((ad b).add 3)))] (λ_=>by kernel_rfl) ?_
      obtain⟨ce,q35,h⟩:=h
      refine N_val (some 87) (loadN 3 (.pointer (some ((ad b).add 3)))) (.int .i64 ce) (λ_=>by kernel_rfl) (loadN_run (loadOK_one (λ_=>by kernel_rfl) q35)) [(5,.pointer (some d)),(6,.slice j m l),(7,.pointer (some (ad b))),(8,.map (some f)),(9,.slice (some g) xN xC),(10,.int .i64 i),(11,.pointer (some (ad u))),(13,.int .i64 k),(83,.bool true),(85,.int .i64 b5),(87,.int .i64 ce)] (ps (by kernel_rfl)) ?_
      refine N_run 2 [(5,.pointer (some d)),(6,.slice j m l),(7,.pointer (some (ad b))),(8,.map (some f)),(9,.slice (some g) xN xC),(10,.int .i64 i),(11,.pointer (some (ad u))),(13,.int .i64 k),(89,.bool (decide (b5>ce)))] (λ_=>by kernel_rfl) ?_
      refine T_e ?_
      by_cases c36:b5>ce
      ·rw[if_pos c36]at h
       have b37:(decide (b5>ce))=true:=decide_eq_true c36
       refine S_env [(5,.pointer (some d)),(6,.slice j m l),(7,.pointer (some (ad b))),(8,.map (some f)),(9,.slice (some g) xN xC),(10,.int .i64 i),(11,.pointer (some (ad u))),(13,.int .i64 k),(89,.bool true)] (by simp only[b37,Bool.not_true,Bool.not_false]) ?_
       clear b37
       refine S_condT (.tmp 89) kk44 kk45 (by kernel_rfl) (by kernel_rfl) ?_
       refine S_skip (by kernel_rfl) ?_
       refine S_then ?_
       refine S_seq kk46 kk47 (by kernel_rfl) ?_
       refine S_block 3 kk48 (by kernel_rfl) ?_
       obtain⟨q38,h⟩:=h
       obtain⟨ac,q39,h⟩:=h
       obtain⟨df,q40,h⟩:=h
       obtain⟨bk,rfl,h⟩:=h
       obtain⟨de,q41,h⟩:=h
       obtain⟨bh,rfl,h⟩:=h
       obtain⟨bi,q42,h⟩:=h
       obtain⟨q43,h⟩:=h
       obtain⟨bq,q44,h⟩:=h
       refine S_regionG 14 (Code.ops kk48) [(29,(g.add (Int.toNat i*1)),[.int .i64 ac]),(25,d,[.pointer (some bk)]),(25,bk,[.pointer (some bh)]),(25,bh,[.pointer bi]),(25,(g.add (Int.toNat i*1)),[.int .i64 bq])] 30 #[false,false,false,false,false,false,false,false,false,false,false,false,false,false,false,false,false,false,false,false,false,false,false,false,false,false,false,false,false,false] (by kernel_rfl) (by kernel_rfl) (by kernel_rfl) (by kernel_rfl) (by kernel_rfl) (show FactsAt _ _ _ from⟨⟨q39,trivial⟩,⟨q40,trivial⟩,⟨q41,trivial⟩,⟨q42,trivial⟩,⟨q44,trivial⟩,trivial⟩) ?_
       refine G_take 0 (some 93) (.map (some f)) #[true,false,false,false,false,false,false,false,false,false,false,false,false,false,false,false,false,false,false,false,false,false,false,false,false,false,false,false,false,false] [(5,.pointer (some d)),(6,.slice j m l),(7,.pointer (some (ad b))),(8,.map (some f)),(9,.slice (some g) xN xC),(10,.int .i64 i),(11,.pointer (some (ad u))),(13,.int .i64 k),(93,.map (some f))] ((pure (.value (.map (some f))):Sem Next)) (λ_=>by kernel_rfl) (λ_ _ _ _ _=>rfl) (by kernel_rfl) (by kernel_rfl) (by kernel_rfl) (by kernel_rfl) (by kernel_rfl) (by kernel_rfl) (ps (by kernel_rfl)) ?_
       refine G_take 1 (some 94) (.slice (some g) xN xC) #[true,true,false,false,false,false,false,false,false,false,false,false,false,false,false,false,false,false,false,false,false,false,false,false,false,false,false,false,false,false] [(5,.pointer (some d)),(6,.slice j m l),(7,.pointer (some (ad b))),(8,.map (some f)),(9,.slice (some g) xN xC),(10,.int .i64 i),(11,.pointer (some (ad u))),(13,.int .i64 k),(93,.map (some f)),(94,.slice (some g) xN xC)] ((pure (.value (.slice (some g) xN xC)):Sem Next)) (λ_=>by kernel_rfl) (λ_ _ _ _ _=>rfl) (by kernel_rfl) (by kernel_rfl) (by kernel_rfl) (by kernel_rfl) (by kernel_rfl) (by kernel_rfl) (ps (by kernel_rfl)) ?_
       refine G_take 2 (some 95) (.int .i64 i) #[true,true,true,false,false,false,false,false,false,false,false,false,false,false,false,false,false,false,false,false,false,false,false,false,false,false,false,false,false,false] [(5,.pointer (some d)),(6,.slice j m l),(7,.pointer (some (ad b))),(8,.map (some f)),(9,.slice (some g) xN xC),(10,.int .i64 i),(11,.pointer (some (ad u))),(13,.int .i64 k),(93,.map (some f)),(94,.slice (some g) xN xC),(95,.int .i64 i)] ((pure (.value (.int .i64 i)):Sem Next)) (λ_=>by kernel_rfl) (λ_ _ _ _ _=>rfl) (by kernel_rfl) (by kernel_rfl) (by kernel_rfl) (by kernel_rfl) (by kernel_rfl) (by kernel_rfl) (ps (by kernel_rfl)) ?_
       refine G_take 3 (some 96) (.pointer (some (g.add (Int.toNat i*1)))) #[true,true,true,true,false,false,false,false,false,false,false,false,false,false,false,false,false,false,false,false,false,false,false,false,false,false,false,false,false,false] [(5,.pointer (some d)),(6,.slice j m l),(7,.pointer (some (ad b))),(8,.map (some f)),(9,.slice (some g) xN xC),(10,.int .i64 i),(11,.pointer (some (ad u))),(13,.int .i64 k),(93,.map (some f)),(96,.pointer (some (g.add (Int.toNat i*1))))] (indexAtN 67 (.slice (some g) xN xC) (.int .i64 i)) (λ_=>by kernel_rfl) (λ_ w _ _ _=>indexAt_run (P:=Tryz.prog) (t:=67) (elem:=3) (sz:=1) (a:=g) (len:=xN) (cap:=xC) (k:=.i64) (i:=i) Tryz.underlying67 (λ_=>by kernel_rfl) q38.1 q38.2 w) (by kernel_rfl) (by kernel_rfl) (by kernel_rfl) (by kernel_rfl) (by kernel_rfl) (by kernel_rfl) (ps (by kernel_rfl)) ?_
       refine G_take 4 (some 97) (.int .i64 ac) #[true,true,true,true,true,false,false,false,false,false,false,false,false,false,false,false,false,false,false,false,false,false,false,false,false,false,false,false,false,false] [(5,.pointer (some d)),(6,.slice j m l),(7,.pointer (some (ad b))),(8,.map (some f)),(9,.slice (some g) xN xC),(10,.int .i64 i),(11,.pointer (some (ad u))),(13,.int .i64 k),(93,.map (some f)),(97,.int .i64 ac)] (loadN 3 (.pointer (some (g.add (Int.toNat i*1))))) (λ_=>by kernel_rfl) (held_one 29 (λ_=>by kernel_rfl) (List.Mem.head _) (.inl (by kernel_rfl))) (by kernel_rfl) (by kernel_rfl) (by kernel_rfl) (by kernel_rfl) (by kernel_rfl) (by kernel_rfl) (ps (by kernel_rfl)) ?_
       refine G_take 5 (some 98) (.int .i64 (IntKind.wrap .i64 (64*ac))) #[true,true,true,true,true,true,false,false,false,false,false,false,false,false,false,false,false,false,false,false,false,false,false,false,false,false,false,false,false,false] [(5,.pointer (some d)),(6,.slice j m l),(7,.pointer (some (ad b))),(8,.map (some f)),(9,.slice (some g) xN xC),(10,.int .i64 i),(11,.pointer (some (ad u))),(13,.int .i64 k),(93,.map (some f)),(98,.int .i64 (IntKind.wrap .i64 (64*ac)))] ((pure (.value (.int .i64 (IntKind.wrap .i64 (64*ac)))):Sem Next)) (λ_=>by kernel_rfl) (λ_ _ _ _ _=>rfl) (by kernel_rfl) (by kernel_rfl) (by kernel_rfl) (by kernel_rfl) (by kernel_rfl) (by kernel_rfl) (ps (by kernel_rfl)) ?_
       refine G_take 6 (some 99) (.int .i64 k) #[true,true,true,true,true,true,true,false,false,false,false,false,false,false,false,false,false,false,false,false,false,false,false,false,false,false,false,false,false,false] [(5,.pointer (some d)),(6,.slice j m l),(7,.pointer (some (ad b))),(8,.map (some f)),(9,.slice (some g) xN xC),(10,.int .i64 i),(11,.pointer (some (ad u))),(13,.int .i64 k),(93,.map (some f)),(98,.int .i64 (IntKind.wrap .i64 (64*ac))),(99,.int .i64 k)] ((pure (.value (.int .i64 k)):Sem Next)) (λ_=>by kernel_rfl) (λ_ _ _ _ _=>rfl) (by kernel_rfl) (by kernel_rfl) (by kernel_rfl) (by kernel_rfl) (by kernel_rfl) (by kernel_rfl) (ps (by kernel_rfl)) ?_
       refine G_take 7 (some 100) (.int .i64 (IntKind.wrap .i64 ((IntKind.wrap .i64 (64*ac))+k))) #[true,true,true,true,true,true,true,true,false,false,false,false,false,false,false,false,false,false,false,false,false,false,false,false,false,false,false,false,false,false] [(5,.pointer (some d)),(6,.slice j m l),(7,.pointer (some (ad b))),(8,.map (some f)),(9,.slice (some g) xN xC),(10,.int .i64 i),(11,.pointer (some (ad u))),(13,.int .i64 k),(93,.map (some f)),(100,.int .i64 (IntKind.wrap .i64 ((IntKind.wrap .i64 (64*ac))+k)))] ((pure (.value (.int .i64 (IntKind.wrap .i64 ((IntKind.wrap .i64 (64*ac))+k)))):Sem Next)) (λ_=>by kernel_rfl) (λ_ _ _ _ _=>rfl) (by kernel_rfl) (by kernel_rfl) (by kernel_rfl) (by kernel_rfl) (by kernel_rfl) (by kernel_rfl) (ps (by kernel_rfl)) ?_
       refine G_take 8 (some 101) (.pointer (some d)) #[true,true,true,true,true,true,true,true,true,false,false,false,false,false,false,false,false,false,false,false,false,false,false,false,false,false,false,false,false,false] [(5,.pointer (some d)),(6,.slice j m l),(7,.pointer (some (ad b))),(8,.map (some f)),(9,.slice (some g) xN xC),(10,.int .i64 i),(11,.pointer (some (ad u))),(13,.int .i64 k),(93,.map (some f)),(100,.int .i64 (IntKind.wrap .i64 ((IntKind.wrap .i64 (64*ac))+k))),(101,.pointer (some d))] ((pure (.value (.pointer (some d))):Sem Next)) (λ_=>by kernel_rfl) (λ_ _ _ _ _=>rfl) (by kernel_rfl) (by kernel_rfl) (by kernel_rfl) (by kernel_rfl) (by kernel_rfl) (by kernel_rfl) (ps (by kernel_rfl)) ?_
       refine G_take 9 (some 102) (.pointer (some d)) #[true,true,true,true,true,true,true,true,true,true,false,false,false,false,false,false,false,false,false,false,false,false,false,false,false,false,false,false,false,false] [(5,.pointer (some d)),(6,.slice j m l),(7,.pointer (some (ad b))),(8,.map (some f)),(9,.slice (some g) xN xC),(10,.int .i64 i),(11,.pointer (some (ad u))),(13,.int .i64 k),(93,.map (some f)),(100,.int .i64 (IntKind.wrap .i64 ((IntKind.wrap .i64 (64*ac))+k))),(102,.pointer (some d))] ((pure (.value (.pointer (some d))):Sem Next)) (λ_=>by kernel_rfl) (λ_ _ _ _ _=>rfl) (by kernel_rfl) (by kernel_rfl) (by kernel_rfl) (by kernel_rfl) (by kernel_rfl) (by kernel_rfl) (ps (by kernel_rfl)) ?_
       refine G_take 10 (some 103) (.pointer (some d)) #[true,true,true,true,true,true,true,true,true,true,true,false,false,false,false,false,false,false,false,false,false,false,false,false,false,false,false,false,false,false] [(5,.pointer (some d)),(6,.slice j m l),(7,.pointer (some (ad b))),(8,.map (some f)),(9,.slice (some g) xN xC),(10,.int .i64 i),(11,.pointer (some (ad u))),(13,.int .i64 k),(93,.map (some f)),(100,.int .i64 (IntKind.wrap .i64 ((IntKind.wrap .i64 (64*ac))+k))),(103,.pointer (some d))] ((pure (.value (.pointer (some d))):Sem Next)) (λ_=>by kernel_rfl) (λ_ _ _ _ _=>rfl) (by kernel_rfl) (by kernel_rfl) (by kernel_rfl) (by kernel_rfl) (by kernel_rfl) (by kernel_rfl) (ps (by kernel_rfl)) ?_
       refine G_take 11 (some 104) (.pointer (some bk)) #[true,true,true,true,true,true,true,true,true,true,true,true,false,false,false,false,false,false,false,false,false,false,false,false,false,false,false,false,false,false] [(5,.pointer (some d)),(6,.slice j m l),(7,.pointer (some (ad b))),(8,.map (some f)),(9,.slice (some g) xN xC),(10,.int .i64 i),(11,.pointer (some (ad u))),(13,.int .i64 k),(93,.map (some f)),(100,.int .i64 (IntKind.wrap .i64 ((IntKind.wrap .i64 (64*ac))+k))),(104,.pointer (some bk))] (loadN 26 (.pointer (some d))) (λ_=>by kernel_rfl) (held_one 25 (λ_=>by kernel_rfl) (List.Mem.tail _ (List.Mem.head _)) (.inl (by kernel_rfl))) (by kernel_rfl) (by kernel_rfl) (by kernel_rfl) (by kernel_rfl) (by kernel_rfl) (by kernel_rfl) (ps (by kernel_rfl)) ?_
       refine G_take 12 (some 105) (.pointer (some bk)) #[true,true,true,true,true,true,true,true,true,true,true,true,true,false,false,false,false,false,false,false,false,false,false,false,false,false,false,false,false,false] [(5,.pointer (some d)),(6,.slice j m l),(7,.pointer (some (ad b))),(8,.map (some f)),(9,.slice (some g) xN xC),(10,.int .i64 i),(11,.pointer (some (ad u))),(13,.int .i64 k),(93,.map (some f)),(100,.int .i64 (IntKind.wrap .i64 ((IntKind.wrap .i64 (64*ac))+k))),(105,.pointer (some bk))] ((pure (.value (.pointer (some bk))):Sem Next)) (λ_=>by kernel_rfl) (λ_ _ _ _ _=>rfl) (by kernel_rfl) (by kernel_rfl) (by kernel_rfl) (by kernel_rfl) (by kernel_rfl) (by kernel_rfl) (ps (by kernel_rfl)) ?_
       refine G_take 13 (some 106) (.pointer (some bk)) #[true,true,true,true,true,true,true,true,true,true,true,true,true,true,false,false,false,false,false,false,false,false,false,false,false,false,false,false,false,false] [(5,.pointer (some d)),(6,.slice j m l),(7,.pointer (some (ad b))),(8,.map (some f)),(9,.slice (some g) xN xC),(10,.int .i64 i),(11,.pointer (some (ad u))),(13,.int .i64 k),(93,.map (some f)),(100,.int .i64 (IntKind.wrap .i64 ((IntKind.wrap .i64 (64*ac))+k))),(106,.pointer (some bk))] ((pure (.value (.pointer (some bk))):Sem Next)) (λ_=>by kernel_rfl) (λ_ _ _ _ _=>rfl) (by kernel_rfl) (by kernel_rfl) (by kernel_rfl) (by kernel_rfl) (by kernel_rfl) (by kernel_rfl) (ps (by kernel_rfl)) ?_
       refine G_take 14 (some 107) (.pointer (some bh)) #[true,true,true,true,true,true,true,true,true,true,true,true,true,true,true,false,false,false,false,false,false,false,false,false,false,false,false,false,false,false] [(5,.pointer (some d)),(6,.slice j m l),(7,.pointer (some (ad b))),(8,.map (some f)),(9,.slice (some g) xN xC),(10,.int .i64 i),(11,.pointer (some (ad u))),(13,.int .i64 k),(93,.map (some f)),(100,.int .i64 (IntKind.wrap .i64 ((IntKind.wrap .i64 (64*ac))+k))),(107,.pointer (some bh))] (loadN 39 (.pointer (some bk))) (λ_=>by kernel_rfl) (held_one 25 (λ_=>by kernel_rfl) (List.Mem.tail _ (List.Mem.tail _ (List.Mem.head _))) (.inl (by kernel_rfl))) (by kernel_rfl) (by kernel_rfl) (by kernel_rfl) (by kernel_rfl) (by kernel_rfl) (by kernel_rfl) (ps (by kernel_rfl)) ?_
       refine G_take 15 (some 108) (.pointer (some bh)) #[true,true,true,true,true,true,true,true,true,true,true,true,true,true,true,true,false,false,false,false,false,false,false,false,false,false,false,false,false,false] [(5,.pointer (some d)),(6,.slice j m l),(7,.pointer (some (ad b))),(8,.map (some f)),(9,.slice (some g) xN xC),(10,.int .i64 i),(11,.pointer (some (ad u))),(13,.int .i64 k),(93,.map (some f)),(100,.int .i64 (IntKind.wrap .i64 ((IntKind.wrap .i64 (64*ac))+k))),(108,.pointer (some bh))] ((pure (.value (.pointer (some bh))):Sem Next)) (λ_=>by kernel_rfl) (λ_ _ _ _ _=>rfl) (by kernel_rfl) (by kernel_rfl) (by kernel_rfl) (by kernel_rfl) (by kernel_rfl) (by kernel_rfl) (ps (by kernel_rfl)) ?_
       refine G_take 16 (some 109) (.pointer (some bh)) #[true,true,true,true,true,true,true,true,true,true,true,true,true,true,true,true,true,false,false,false,false,false,false,false,false,false,false,false,false,false] [(5,.pointer (some d)),(6,.slice j m l),(7,.pointer (some (ad b))),(8,.map (some f)),(9,.slice (some g) xN xC),(10,.int .i64 i),(11,.pointer (some (ad u))),(13,.int .i64 k),(93,.map (some f)),(100,.int .i64 (IntKind.wrap .i64 ((IntKind.wrap .i64 (64*ac))+k))),(109,.pointer (some bh))] ((pure (.value (.pointer (some bh))):Sem Next)) (λ_=>by kernel_rfl) (λ_ _ _ _ _=>rfl) (by kernel_rfl) (by kernel_rfl) (by kernel_rfl) (by kernel_rfl) (by kernel_rfl) (by kernel_rfl) (ps (by kernel_rfl)) ?_
       refine G_take 17 (some 110) (.pointer bi) #[true,true,true,true,true,true,true,true,true,true,true,true,true,true,true,true,true,true,false,false,false,false,false,false,false,false,false,false,false,false] [(5,.pointer (some d)),(6,.slice j m l),(7,.pointer (some (ad b))),(8,.map (some f)),(9,.slice (some g) xN xC),(10,.int .i64 i),(11,.pointer (some (ad u))),(13,.int .i64 k),(93,.map (some f)),(100,.int .i64 (IntKind.wrap .i64 ((IntKind.wrap .i64 (64*ac))+k))),(110,.pointer bi)] (loadN 69 (.pointer (some bh))) (λ_=>by kernel_rfl) (held_one 25 (λ_=>by kernel_rfl) (List.Mem.tail _ (List.Mem.tail _ (List.Mem.tail _ (List.Mem.head _)))) (.inl (by kernel_rfl))) (by kernel_rfl) (by kernel_rfl) (by kernel_rfl) (by kernel_rfl) (by kernel_rfl) (by kernel_rfl) (ps (by kernel_rfl)) ?_
       refine G_take 18 (some 111) (.slice (some g) xN xC) #[true,true,true,true,true,true,true,true,true,true,true,true,true,true,true,true,true,true,true,false,false,false,false,false,false,false,false,false,false,false] [(5,.pointer (some d)),(6,.slice j m l),(7,.pointer (some (ad b))),(8,.map (some f)),(9,.slice (some g) xN xC),(10,.int .i64 i),(11,.pointer (some (ad u))),(13,.int .i64 k),(93,.map (some f)),(100,.int .i64 (IntKind.wrap .i64 ((IntKind.wrap .i64 (64*ac))+k))),(110,.pointer bi),(111,.slice (some g) xN xC)] ((pure (.value (.slice (some g) xN xC)):Sem Next)) (λ_=>by kernel_rfl) (λ_ _ _ _ _=>rfl) (by kernel_rfl) (by kernel_rfl) (by kernel_rfl) (by kernel_rfl) (by kernel_rfl) (by kernel_rfl) (ps (by kernel_rfl)) ?_
       refine G_take 19 (some 112) (.int .i64 i) #[true,true,true,true,true,true,true,true,true,true,true,true,true,true,true,true,true,true,true,true,false,false,false,false,false,false,false,false,false,false] [(5,.pointer (some d)),(6,.slice j m l),(7,.pointer (some (ad b))),(8,.map (some f)),(9,.slice (some g) xN xC),(10,.int .i64 i),(11,.pointer (some (ad u))),(13,.int .i64 k),(93,.map (some f)),(100,.int .i64 (IntKind.wrap .i64 ((IntKind.wrap .i64 (64*ac))+k))),(110,.pointer bi),(111,.slice (some g) xN xC),(112,.int .i64 i)] ((pure (.value (.int .i64 i)):Sem Next)) (λ_=>by kernel_rfl) (λ_ _ _ _ _=>rfl) (by kernel_rfl) (by kernel_rfl) (by kernel_rfl) (by kernel_rfl) (by kernel_rfl) (by kernel_rfl) (ps (by kernel_rfl)) ?_
       refine G_take 20 (some 113) (.pointer (some (g.add (Int.toNat i*1)))) #[true,true,true,true,true,true,true,true,true,true,true,true,true,true,true,true,true,true,true,true,true,false,false,false,false,false,false,false,false,false] [(5,.pointer (some d)),(6,.slice j m l),(7,.pointer (some (ad b))),(8,.map (some f)),(9,.slice (some g) xN xC),(10,.int .i64 i),(11,.pointer (some (ad u))),(13,.int .i64 k),(93,.map (some f)),(100,.int .i64 (IntKind.wrap .i64 ((IntKind.wrap .i64 (64*ac))+k))),(110,.pointer bi),(113,.pointer (some (g.add (Int.toNat i*1))))] (indexAtN 67 (.slice (some g) xN xC) (.int .i64 i)) (λ_=>by kernel_rfl) (λ_ w _ _ _=>indexAt_run (P:=Tryz.prog) (t:=67) (elem:=3) (sz:=1) (a:=g) (len:=xN) (cap:=xC) (k:=.i64) (i:=i) Tryz.underlying67 (λ_=>by kernel_rfl) q43.1 q43.2 w) (by kernel_rfl) (by kernel_rfl) (by kernel_rfl) (by kernel_rfl) (by kernel_rfl) (by kernel_rfl) (ps (by kernel_rfl)) ?_
       refine G_take 21 (some 114) (.int .i64 bq) #[true,true,true,true,true,true,true,true,true,true,true,true,true,true,true,true,true,true,true,true,true,true,false,false,false,false,false,false,false,false] [(5,.pointer (some d)),(6,.slice j m l),(7,.pointer (some (ad b))),(8,.map (some f)),(9,.slice (some g) xN xC),(10,.int .i64 i),(11,.pointer (some (ad u))),(13,.int .i64 k),(93,.map (some f)),(100,.int .i64 (IntKind.wrap .i64 ((IntKind.wrap .i64 (64*ac))+k))),(110,.pointer bi),(114,.int .i64 bq)] (loadN 3 (.pointer (some (g.add (Int.toNat i*1))))) (λ_=>by kernel_rfl) (held_one 25 (λ_=>by kernel_rfl) (List.Mem.tail _ (List.Mem.tail _ (List.Mem.tail _ (List.Mem.tail _ (List.Mem.head _))))) (.inl (by kernel_rfl))) (by kernel_rfl) (by kernel_rfl) (by kernel_rfl) (by kernel_rfl) (by kernel_rfl) (by kernel_rfl) (ps (by kernel_rfl)) ?_
       refine G_take 22 (some 115) (.int .i64 (IntKind.wrap .i64 (64*bq))) #[true,true,true,true,true,true,true,true,true,true,true,true,true,true,true,true,true,true,true,true,true,true,true,false,false,false,false,false,false,false] [(5,.pointer (some d)),(6,.slice j m l),(7,.pointer (some (ad b))),(8,.map (some f)),(9,.slice (some g) xN xC),(10,.int .i64 i),(11,.pointer (some (ad u))),(13,.int .i64 k),(93,.map (some f)),(100,.int .i64 (IntKind.wrap .i64 ((IntKind.wrap .i64 (64*ac))+k))),(110,.pointer bi),(115,.int .i64 (IntKind.wrap .i64 (64*bq)))] ((pure (.value (.int .i64 (IntKind.wrap .i64 (64*bq)))):Sem Next)) (λ_=>by kernel_rfl) (λ_ _ _ _ _=>rfl) (by kernel_rfl) (by kernel_rfl) (by kernel_rfl) (by kernel_rfl) (by kernel_rfl) (by kernel_rfl) (ps (by kernel_rfl)) ?_
       refine G_take 23 (some 116) (.int .i64 k) #[true,true,true,true,true,true,true,true,true,true,true,true,true,true,true,true,true,true,true,true,true,true,true,true,false,false,false,false,false,false] [(5,.pointer (some d)),(6,.slice j m l),(7,.pointer (some (ad b))),(8,.map (some f)),(9,.slice (some g) xN xC),(10,.int .i64 i),(11,.pointer (some (ad u))),(13,.int .i64 k),(93,.map (some f)),(100,.int .i64 (IntKind.wrap .i64 ((IntKind.wrap .i64 (64*ac))+k))),(110,.pointer bi),(115,.int .i64 (IntKind.wrap .i64 (64*bq))),(116,.int .i64 k)] ((pure (.value (.int .i64 k)):Sem Next)) (λ_=>by kernel_rfl) (λ_ _ _ _ _=>rfl) (by kernel_rfl) (by kernel_rfl) (by kernel_rfl) (by kernel_rfl) (by kernel_rfl) (by kernel_rfl) (ps (by kernel_rfl)) ?_
       refine G_take 24 (some 117) (.int .i64 (IntKind.wrap .i64 ((IntKind.wrap .i64 (64*bq))+k))) #[true,true,true,true,true,true,true,true,true,true,true,true,true,true,true,true,true,true,true,true,true,true,true,true,true,false,false,false,false,false] [(5,.pointer (some d)),(6,.slice j m l),(7,.pointer (some (ad b))),(8,.map (some f)),(9,.slice (some g) xN xC),(10,.int .i64 i),(11,.pointer (some (ad u))),(13,.int .i64 k),(93,.map (some f)),(100,.int .i64 (IntKind.wrap .i64 ((IntKind.wrap .i64 (64*ac))+k))),(110,.pointer bi),(117,.int .i64 (IntKind.wrap .i64 ((IntKind.wrap .i64 (64*bq))+k)))] ((pure (.value (.int .i64 (IntKind.wrap .i64 ((IntKind.wrap .i64 (64*bq))+k)))):Sem Next)) (λ_=>by kernel_rfl) (λ_ _ _ _ _=>rfl) (by kernel_rfl) (by kernel_rfl) (by kernel_rfl) (by kernel_rfl) (by kernel_rfl) (by kernel_rfl) (ps (by kernel_rfl)) ?_
       refine G_call 25 (some 118) #[true,true,true,true,true,true,true,true,true,true,true,true,true,true,true,true,true,true,true,true,true,true,true,true,true,true,false,false,false,false] 25 #[.pointer bi,.int .i64 (IntKind.wrap .i64 ((IntKind.wrap .i64 (64*bq))+k))] (by kernel_rfl) (λ_=>by kernel_rfl) h (by kernel_rfl) ?_;clear h
       rintro d3 c4 ⟨ba,cd,rfl,h⟩
       obtain⟨f45,h⟩:=h
       refine⟨[(5,.pointer (some d)),(6,.slice j m l),(7,.pointer (some (ad b))),(8,.map (some f)),(9,.slice (some g) xN xC),(10,.int .i64 i),(11,.pointer (some (ad u))),(13,.int .i64 k),(93,.map (some f)),(100,.int .i64 (IntKind.wrap .i64 ((IntKind.wrap .i64 (64*ac))+k))),(118,.tuple #[.int .u64 ba,.int .i64 cd])],ps (by kernel_rfl),(show FactsAt _ _ _ from⟨f45,trivial,trivial,trivial,trivial,trivial⟩),?_⟩
       refine G_take 26 (some 92) (.tuple #[.int .u64 ba,.int .i64 cd]) #[true,true,true,true,true,true,true,true,true,true,true,true,true,true,true,true,true,true,true,true,true,true,true,true,true,true,true,false,false,false] [(5,.pointer (some d)),(6,.slice j m l),(7,.pointer (some (ad b))),(8,.map (some f)),(9,.slice (some g) xN xC),(10,.int .i64 i),(11,.pointer (some (ad u))),(13,.int .i64 k),(92,.tuple #[.int .u64 ba,.int .i64 cd]),(93,.map (some f)),(100,.int .i64 (IntKind.wrap .i64 ((IntKind.wrap .i64 (64*ac))+k)))] (pure (.value (.tuple #[.int .u64 ba,.int .i64 cd])):Sem Next) (λ_=>by kernel_rfl) (λ_ _ _ _ _=>rfl) (by kernel_rfl) (by kernel_rfl) (by kernel_rfl) (by kernel_rfl) (by kernel_rfl) (by kernel_rfl) (ps (by kernel_rfl)) ?_
       refine G_take 27 (some 119) (.int .u64 ba) #[true,true,true,true,true,true,true,true,true,true,true,true,true,true,true,true,true,true,true,true,true,true,true,true,true,true,true,true,false,false] [(5,.pointer (some d)),(6,.slice j m l),(7,.pointer (some (ad b))),(8,.map (some f)),(9,.slice (some g) xN xC),(10,.int .i64 i),(11,.pointer (some (ad u))),(13,.int .i64 k),(92,.tuple #[.int .u64 ba,.int .i64 cd]),(93,.map (some f)),(100,.int .i64 (IntKind.wrap .i64 ((IntKind.wrap .i64 (64*ac))+k))),(119,.int .u64 ba)] (pure (.value (.int .u64 ba)):Sem Next) (λ_=>by kernel_rfl) (λ_ _ _ _ _=>rfl) (by kernel_rfl) (by kernel_rfl) (by kernel_rfl) (by kernel_rfl) (by kernel_rfl) (by kernel_rfl) (ps (by kernel_rfl)) ?_
       refine G_take 28 (some 120) (.int .i64 cd) #[true,true,true,true,true,true,true,true,true,true,true,true,true,true,true,true,true,true,true,true,true,true,true,true,true,true,true,true,true,false] [(5,.pointer (some d)),(6,.slice j m l),(7,.pointer (some (ad b))),(8,.map (some f)),(9,.slice (some g) xN xC),(10,.int .i64 i),(11,.pointer (some (ad u))),(13,.int .i64 k),(93,.map (some f)),(100,.int .i64 (IntKind.wrap .i64 ((IntKind.wrap .i64 (64*ac))+k))),(119,.int .u64 ba)] (pure (.value (.int .i64 cd)):Sem Next) (λ_=>by kernel_rfl) (λ_ _ _ _ _=>rfl) (by kernel_rfl) (by kernel_rfl) (by kernel_rfl) (by kernel_rfl) (by kernel_rfl) (by kernel_rfl) (ps (by kernel_rfl)) ?_
       obtain⟨es,cl,ks,q46,q47,h⟩:=h
       refine G_onlyskip 29 none #[true,true,true,true,true,true,true,true,true,true,true,true,true,true,true,true,true,true,true,true,true,true,true,true,true,true,true,true,true,true] (mapPutN 74 (.map (some f)) (.int .i64 (IntKind.wrap .i64 ((IntKind.wrap .i64 (64*ac))+k))) (.int .u64 ba)) (λHz=> ∃es2 cl2,Hz=setBlk c4 f (.map es2 cl2)/\Ents (intKey .i64) es2.toList (mput ks (IntKind.wrap .i64 ((IntKind.wrap .i64 (64*ac))+k)) (.int .u64 ba))/\(Born es cl->Born es2 cl2)) (by kernel_rfl) (λ_=>by kernel_rfl) (λw hw=>by obtain⟨es2,cl2,q1,q2,q3⟩:=mapPut_runB (kk:=(intKey .i64)) (P:=Tryz.prog) (w:=w) (k:=(IntKind.wrap .i64 ((IntKind.wrap .i64 (64*ac))+k))) (v:=.int .u64 ba) Tryz.underlying74 Tryz.underlying3 (by rw[hw];exact q46) q47;exact⟨_,q1,⟨rfl,rfl,rfl,Nat.le_refl _⟩,es2,cl2,by rw[<-hw],q2,q3⟩) (by kernel_rfl) ?_
       rintro H14 ⟨cr,cl_2,e48,e49,e50⟩
       replace h:=h cr cl_2 H14 e48 e49 e50
       refine⟨[(5,.pointer (some d)),(6,.slice j m l),(7,.pointer (some (ad b))),(8,.map (some f)),(9,.slice (some g) xN xC),(10,.int .i64 i),(11,.pointer (some (ad u))),(13,.int .i64 k)],ps (by kernel_rfl),(show FactsAt _ _ _ from⟨trivial,trivial,trivial,trivial,trivial,trivial⟩),?_⟩
       refine G_sub [(5,.pointer (some d)),(6,.slice j m l),(7,.pointer (some (ad b))),(8,.map (some f)),(9,.slice (some g) xN xC),(10,.int .i64 i),(11,.pointer (some (ad u))),(13,.int .i64 k)] (sb (by kernel_rfl)) ?_
       refine G_end (by kernel_rfl) ?_
       refine S_blockEnd ?_
       refine S_then ?_
       refine S_region 13 (Code.ops kk47) (by kernel_rfl) ?_
       refine N_run 3 [(5,.pointer (some d)),(6,.slice j m l),(7,.pointer (some (ad b))),(8,.map (some f)),(9,.slice (some g) xN xC),(10,.int .i64 i),(11,.pointer (some (ad u))),(13,.int .i64 (IntKind.wrap .i64 (k+1)))] (λ_=>by kernel_rfl) ?_
       refine T_e ?_
       exact S_round ((IntKind.wrap .i64 (k+1)):Int) (sb (by kernel_rfl)) h
      ·rw[if_neg c36]at h
       have b37:(decide (b5>ce))=false:=decide_eq_false c36
       refine S_env [(5,.pointer (some d)),(6,.slice j m l),(7,.pointer (some (ad b))),(8,.map (some f)),(9,.slice (some g) xN xC),(10,.int .i64 i),(11,.pointer (some (ad u))),(13,.int .i64 k),(89,.bool false)] (by simp only[b37,Bool.not_true,Bool.not_false]) ?_
       clear b37
       refine S_condF (.tmp 89) kk44 kk45 (by kernel_rfl) (by kernel_rfl) ?_
       refine S_exit 2 (by kernel_rfl) ?_
       refine S_exitThen ?_
       refine S_exitThen ?_
       refine S_exitHere ?_
       refine S_blockEnd ?_
       refine S_then ?_
       refine S_region 9 (Code.ops kk32) (by kernel_rfl) ?_
       refine N_run 3 [(5,.pointer (some d)),(6,.slice j m l),(7,.pointer (some (ad b))),(8,.map (some f)),(9,.slice (some g) xN xC),(10,.int .i64 (IntKind.wrap .i64 (i+1)))] (λ_=>by kernel_rfl) ?_
       refine T_e ?_
       exact S_round ((IntKind.wrap .i64 (i+1)):Int) (sb (by kernel_rfl)) h
     ·rw[if_neg c32]at h
      have b33:(decide (k<b9))=false:=decide_eq_false c32
      refine N_env [(5,.pointer (some d)),(6,.slice j m l),(7,.pointer (some (ad b))),(8,.map (some f)),(9,.slice (some g) xN xC),(10,.int .i64 i),(11,.pointer (some (ad u))),(13,.int .i64 k),(83,.bool false)] (by simp only[b33,Bool.not_true,Bool.not_false]) ?_
      clear b33
      refine N_run 6 [(5,.pointer (some d)),(6,.slice j m l),(7,.pointer (some (ad b))),(8,.map (some f)),(9,.slice (some g) xN xC),(10,.int .i64 i),(11,.pointer (some (ad u))),(13,.int .i64 k),(89,.bool false)] (λ_=>by kernel_rfl) ?_
      refine T_e ?_
      refine S_condF (.tmp 89) kk44 kk45 (by kernel_rfl) (by kernel_rfl) ?_
      refine S_exit 2 (by kernel_rfl) ?_
      refine S_exitThen ?_
      refine S_exitThen ?_
      refine S_exitHere ?_
      refine S_blockEnd ?_
      refine S_then ?_
      refine S_region 9 (Code.ops kk32) (by kernel_rfl) ?_
      refine N_run 3 [(5,.pointer (some d)),(6,.slice j m l),(7,.pointer (some (ad b))),(8,.map (some f)),(9,.slice (some g) xN xC),(10,.int .i64 (IntKind.wrap .i64 (i+1)))] (λ_=>by kernel_rfl) ?_
      refine T_e ?_
      exact S_round ((IntKind.wrap .i64 (i+1)):Int) (sb (by kernel_rfl)) h
    ·replace h:=h.2
     refine O_new 18 (some 11) #[true,true,true,true,true,true,true,true,true,true,true,true,true,true,false,false,false,false,true,false,false] (λb=> .pointer (some (ad b))) (.cells #[.int .i64 0,.int .i64 0,.int .i64 0,.int .i64 0,.int .i64 0,.int .i64 0,.int .i64 0] 76) (by kernel_rfl) (λ_=>by kernel_rfl) (by kernel_rfl) ?_
     intro r H15 e55 e56
     replace h:=h r H15 e55 e56
     obtain⟨f51,f52,f53,f54,h⟩:=h
     refine⟨[(5,.pointer (some d)),(6,.slice j m l),(7,.pointer (some (ad b))),(8,.map (some f)),(9,.slice (some g) xN xC),(10,.int .i64 i),(11,.pointer (some (ad r))),(71,.pointer b4),(75,.int .i64 ch)],ps (by kernel_rfl),(show FactsAt _ _ _ from⟨f51,f52,f53,f54,trivial⟩),?_⟩
     refine G_call 14 (some 76) #[true,true,true,true,true,true,true,true,true,true,true,true,true,true,true,false,false,false,true,false,false] 24 #[.pointer b4,.int .i64 ch] (by kernel_rfl) (λ_=>by kernel_rfl) h (by kernel_rfl) ?_;clear h
     rintro d5 dj ⟨ak,aj,ax,y,aa,z,ab,bt,rfl,h⟩
     refine⟨[(5,.pointer (some d)),(6,.slice j m l),(7,.pointer (some (ad b))),(8,.map (some f)),(9,.slice (some g) xN xC),(10,.int .i64 i),(11,.pointer (some (ad r))),(76,.tuple #[.agg #[.int .i64 ak,.int .i64 aj,.int .i64 ax,.int .i64 y,.int .i64 aa,.int .i64 z,.int .i64 ab],.bool bt])],ps (by kernel_rfl),(show FactsAt _ _ _ from⟨trivial,trivial,trivial,trivial,trivial⟩),?_⟩
     refine G_take 15 (some 61) (.tuple #[.agg #[.int .i64 ak,.int .i64 aj,.int .i64 ax,.int .i64 y,.int .i64 aa,.int .i64 z,.int .i64 ab],.bool bt]) #[true,true,true,true,true,true,true,true,true,true,true,true,true,true,true,true,false,false,true,false,false] [(5,.pointer (some d)),(6,.slice j m l),(7,.pointer (some (ad b))),(8,.map (some f)),(9,.slice (some g) xN xC),(10,.int .i64 i),(11,.pointer (some (ad r))),(61,.tuple #[.agg #[.int .i64 ak,.int .i64 aj,.int .i64 ax,.int .i64 y,.int .i64 aa,.int .i64 z,.int .i64 ab],.bool bt])] (pure (.value (.tuple #[.agg #[.int .i64 ak,.int .i64 aj,.int .i64 ax,.int .i64 y,.int .i64 aa,.int .i64 z,.int .i64 ab],.bool bt])):Sem Next) (λ_=>by kernel_rfl) (λ_ _ _ _ _=>rfl) (by kernel_rfl) (by kernel_rfl) (by kernel_rfl) (by kernel_rfl) (by kernel_rfl) (by kernel_rfl) (ps (by kernel_rfl)) ?_
     refine G_take 16 (some 77) (.agg #[.int .i64 ak,.int .i64 aj,.int .i64 ax,.int .i64 y,.int .i64 aa,.int .i64 z,.int .i64 ab]) #[true,true,true,true,true,true,true,true,true,true,true,true,true,true,true,true,true,false,true,false,false] [(5,.pointer (some d)),(6,.slice j m l),(7,.pointer (some (ad b))),(8,.map (some f)),(9,.slice (some g) xN xC),(10,.int .i64 i),(11,.pointer (some (ad r))),(61,.tuple #[.agg #[.int .i64 ak,.int .i64 aj,.int .i64 ax,.int .i64 y,.int .i64 aa,.int .i64 z,.int .i64 ab],.bool bt]),(77,.agg #[.int .i64 ak,.int .i64 aj,.int .i64 ax,.int .i64 y,.int .i64 aa,.int .i64 z,.int .i64 ab])] (pure (.value (.agg #[.int .i64 ak,.int .i64 aj,.int .i64 ax,.int .i64 y,.int .i64 aa,.int .i64 z,.int .i64 ab])):Sem Next) (λ_=>by kernel_rfl) (λ_ _ _ _ _=>rfl) (by kernel_rfl) (by kernel_rfl) (by kernel_rfl) (by kernel_rfl) (by kernel_rfl) (by kernel_rfl) (ps (by kernel_rfl)) ?_
     refine G_take 17 (some 78) (.bool bt) #[true,true,true,true,true,true,true,true,true,true,true,true,true,true,true,true,true,true,true,false,false] [(5,.pointer (some d)),(6,.slice j m l),(7,.pointer (some (ad b))),(8,.map (some f)),(9,.slice (some g) xN xC),(10,.int .i64 i),(11,.pointer (some (ad r))),(77,.agg #[.int .i64 ak,.int .i64 aj,.int .i64 ax,.int .i64 y,.int .i64 aa,.int .i64 z,.int .i64 ab]),(78,.bool bt)] (pure (.value (.bool bt)):Sem Next) (λ_=>by kernel_rfl) (λ_ _ _ _ _=>rfl) (by kernel_rfl) (by kernel_rfl) (by kernel_rfl) (by kernel_rfl) (by kernel_rfl) (by kernel_rfl) (ps (by kernel_rfl)) ?_
     obtain⟨q58,h⟩:=h
     refine G_onlyskip 19 none #[true,true,true,true,true,true,true,true,true,true,true,true,true,true,true,true,true,true,true,true,false] (storeN 76 (.pointer (some (ad r))) (.agg #[.int .i64 ak,.int .i64 aj,.int .i64 ax,.int .i64 y,.int .i64 aa,.int .i64 z,.int .i64 ab])) (λHz=>Hz=hputs dj (ad r) [.int .i64 ak,.int .i64 aj,.int .i64 ax,.int .i64 y,.int .i64 aa,.int .i64 z,.int .i64 ab] 0) (by kernel_rfl) (λ_=>by kernel_rfl) (ss_store [.int .i64 ak,.int .i64 aj,.int .i64 ax,.int .i64 y,.int .i64 aa,.int .i64 z,.int .i64 ab] 7 (by kernel_rfl) (by kernel_rfl) (λ_=>by kernel_rfl) (by kernel_rfl) q58) (by kernel_rfl) ?_
     intro dn e57
     replace h:=h dn e57
     refine⟨[(5,.pointer (some d)),(6,.slice j m l),(7,.pointer (some (ad b))),(8,.map (some f)),(9,.slice (some g) xN xC),(10,.int .i64 i),(11,.pointer (some (ad r))),(78,.bool bt)],ps (by kernel_rfl),(show FactsAt _ _ _ from⟨trivial,trivial,trivial,trivial,trivial⟩),?_⟩
     refine G_take 20 (some 12) (.bool bt) #[true,true,true,true,true,true,true,true,true,true,true,true,true,true,true,true,true,true,true,true,true] [(5,.pointer (some d)),(6,.slice j m l),(7,.pointer (some (ad b))),(8,.map (some f)),(9,.slice (some g) xN xC),(10,.int .i64 i),(11,.pointer (some (ad r)))] (pure (.value (.bool bt)):Sem Next) (λ_=>by kernel_rfl) (λ_ _ _ _ _=>rfl) (by kernel_rfl) (by kernel_rfl) (by kernel_rfl) (by kernel_rfl) (by kernel_rfl) (by kernel_rfl) (ps (by kernel_rfl)) ?_
     refine G_sub [(5,.pointer (some d)),(6,.slice j m l),(7,.pointer (some (ad b))),(8,.map (some f)),(9,.slice (some g) xN xC),(10,.int .i64 i),(11,.pointer (some (ad r)))] (sb (by kernel_rfl)) ?_
     refine G_end (by kernel_rfl) ?_
     refine S_then ?_
     refine T_sr 11 kk36 kk37 ?_
     refine N_run 1 [(5,.pointer (some d)),(6,.slice j m l),(7,.pointer (some (ad b))),(8,.map (some f)),(9,.slice (some g) xN xC),(10,.int .i64 i),(11,.pointer (some (ad r))),(13,.int .i64 0)] (λ_=>by kernel_rfl) ?_
     refine T_e ?_
     refine S_block 2 kk38 (by kernel_rfl) ?_
     obtain⟨c5,m49,i59,i60⟩:=h
     refine S_loop (x:=kk39) (σ:=Int) (λs_=> [(5,.pointer (some d)),(6,.slice j m l),(7,.pointer (some (ad b))),(8,.map (some f)),(9,.slice (some g) xN xC),(10,.int .i64 i),(11,.pointer (some (ad r))),(13,.int .i64 s_)]) (λs_ H=>c5 s_ H) (λs_ H=>m49 s_ H) (0:Int) (by kernel_rfl) i59 (sb (by kernel_rfl)) ?_
     rintro o H18 i61
     have h:=i60 o H18 i61
     refine S_sub [(5,.pointer (some d)),(6,.slice j m l),(7,.pointer (some (ad b))),(8,.map (some f)),(9,.slice (some g) xN xC),(10,.int .i64 i),(11,.pointer (some (ad r))),(13,.int .i64 o)] (sb (by kernel_rfl)) ?_
     refine S_seq kk40 kk41 (by kernel_rfl) ?_
     refine T_sr 12 kk42 kk43 ?_
     refine N_run 2 [(5,.pointer (some d)),(6,.slice j m l),(7,.pointer (some (ad b))),(8,.map (some f)),(9,.slice (some g) xN xC),(10,.int .i64 i),(11,.pointer (some (ad r))),(13,.int .i64 o),(79,.int .i64 o),(80,.pointer (some ((ad r).add 2)))] (λ_=>by kernel_rfl) ?_
     obtain⟨cc,q62,h⟩:=h
     refine N_val (some 81) (loadN 3 (.pointer (some ((ad r).add 2)))) (.int .i64 cc) (λ_=>by kernel_rfl) (loadN_run (loadOK_one (λ_=>by kernel_rfl) q62)) [(5,.pointer (some d)),(6,.slice j m l),(7,.pointer (some (ad b))),(8,.map (some f)),(9,.slice (some g) xN xC),(10,.int .i64 i),(11,.pointer (some (ad r))),(13,.int .i64 o),(79,.int .i64 o),(81,.int .i64 cc)] (ps (by kernel_rfl)) ?_
     refine N_run 2 [(5,.pointer (some d)),(6,.slice j m l),(7,.pointer (some (ad b))),(8,.map (some f)),(9,.slice (some g) xN xC),(10,.int .i64 i),(11,.pointer (some (ad r))),(13,.int .i64 o),(83,.bool (decide (o<cc)))] (λ_=>by kernel_rfl) ?_
     by_cases c63:o<cc
     ·rw[if_pos c63]at h
      have b64:(decide (o<cc))=true:=decide_eq_true c63
      refine N_env [(5,.pointer (some d)),(6,.slice j m l),(7,.pointer (some (ad b))),(8,.map (some f)),(9,.slice (some g) xN xC),(10,.int .i64 i),(11,.pointer (some (ad r))),(13,.int .i64 o),(83,.bool true)] (by simp only[b64,Bool.not_true,Bool.not_false]) ?_
      clear b64
      refine N_run 1 [(5,.pointer (some d)),(6,.slice j m l),(7,.pointer (some (ad b))),(8,.map (some f)),(9,.slice (some g) xN xC),(10,.int .i64 i),(11,.pointer (some (ad r))),(13,.int .i64 o),(83,.bool true),(84,.pointer (some (ad r)))] (λ_=>by kernel_rfl) ?_
      obtain⟨b3,q65,h⟩:=h
      refine N_val (some 85) (loadN 3 (.pointer (some (ad r)))) (.int .i64 b3) (λ_=>by kernel_rfl) (loadN_run (loadOK_one (λ_=>by kernel_rfl) q65)) [(5,.pointer (some d)),(6,.slice j m l),(7,.pointer (some (ad b))),(8,.map (some f)),(9,.slice (some g) xN xC),(10,.int .i64 i),(11,.pointer (some (ad r))),(13,.int .i64 o),(83,.bool true),(85,.int .i64 b3)] (ps (by kernel_rfl)) ?_
      refine N_run 1 [(5,.pointer (some d)),(6,.slice j m l),(7,.pointer (some (ad b))),(8,.map (some f)),(9,.slice (some g) xN xC),(10,.int .i64 i),(11,.pointer (some (ad r))),(13,.int .i64 o),(83,.bool true),(85,.int .i64 b3),(86,.pointer (some ((ad b).add 3)))] (λ_=>by kernel_rfl) ?_
      obtain⟨cg,q66,h⟩:=h
      refine N_val (some 87) (loadN 3 (.pointer (some ((ad b).add 3)))) (.int .i64 cg) (λ_=>by kernel_rfl) (loadN_run (loadOK_one (λ_=>by kernel_rfl) q66)) [(5,.pointer (some d)),(6,.slice j m l),(7,.pointer (some (ad b))),(8,.map (some f)),(9,.slice (some g) xN xC),(10,.int .i64 i),(11,.pointer (some (ad r))),(13,.int .i64 o),(83,.bool true),(85,.int .i64 b3),(87,.int .i64 cg)] (ps (by kernel_rfl)) ?_
      refine N_run 2 [(5,.pointer (some d)),(6,.slice j m l),(7,.pointer (some (ad b))),(8,.map (some f)),(9,.slice (some g) xN xC),(10,.int .i64 i),(11,.pointer (some (ad r))),(13,.int .i64 o),(89,.bool (decide (b3>cg)))] (λ_=>by kernel_rfl) ?_
      refine T_e ?_
      by_cases c67:b3>cg
      ·rw[if_pos c67]at h
       have b68:(decide (b3>cg))=true:=decide_eq_true c67
       refine S_env [(5,.pointer (some d)),(6,.slice j m l),(7,.pointer (some (ad b))),(8,.map (some f)),(9,.slice (some g) xN xC),(10,.int .i64 i),(11,.pointer (some (ad r))),(13,.int .i64 o),(89,.bool true)] (by simp only[b68,Bool.not_true,Bool.not_false]) ?_
       clear b68
       refine S_condT (.tmp 89) kk44 kk45 (by kernel_rfl) (by kernel_rfl) ?_
       refine S_skip (by kernel_rfl) ?_
       refine S_then ?_
       refine S_seq kk46 kk47 (by kernel_rfl) ?_
       refine S_block 3 kk48 (by kernel_rfl) ?_
       obtain⟨q69,h⟩:=h
       obtain⟨ae,q70,h⟩:=h
       obtain⟨dg,q71,h⟩:=h
       obtain⟨bg,rfl,h⟩:=h
       obtain⟨dd,q72,h⟩:=h
       obtain⟨bf,rfl,h⟩:=h
       obtain⟨bp,q73,h⟩:=h
       obtain⟨q74,h⟩:=h
       obtain⟨bd,q75,h⟩:=h
       refine S_regionG 14 (Code.ops kk48) [(29,(g.add (Int.toNat i*1)),[.int .i64 ae]),(25,d,[.pointer (some bg)]),(25,bg,[.pointer (some bf)]),(25,bf,[.pointer bp]),(25,(g.add (Int.toNat i*1)),[.int .i64 bd])] 30 #[false,false,false,false,false,false,false,false,false,false,false,false,false,false,false,false,false,false,false,false,false,false,false,false,false,false,false,false,false,false] (by kernel_rfl) (by kernel_rfl) (by kernel_rfl) (by kernel_rfl) (by kernel_rfl) (show FactsAt _ _ _ from⟨⟨q70,trivial⟩,⟨q71,trivial⟩,⟨q72,trivial⟩,⟨q73,trivial⟩,⟨q75,trivial⟩,trivial⟩) ?_
       refine G_take 0 (some 93) (.map (some f)) #[true,false,false,false,false,false,false,false,false,false,false,false,false,false,false,false,false,false,false,false,false,false,false,false,false,false,false,false,false,false] [(5,.pointer (some d)),(6,.slice j m l),(7,.pointer (some (ad b))),(8,.map (some f)),(9,.slice (some g) xN xC),(10,.int .i64 i),(11,.pointer (some (ad r))),(13,.int .i64 o),(93,.map (some f))] ((pure (.value (.map (some f))):Sem Next)) (λ_=>by kernel_rfl) (λ_ _ _ _ _=>rfl) (by kernel_rfl) (by kernel_rfl) (by kernel_rfl) (by kernel_rfl) (by kernel_rfl) (by kernel_rfl) (ps (by kernel_rfl)) ?_
       refine G_take 1 (some 94) (.slice (some g) xN xC) #[true,true,false,false,false,false,false,false,false,false,false,false,false,false,false,false,false,false,false,false,false,false,false,false,false,false,false,false,false,false] [(5,.pointer (some d)),(6,.slice j m l),(7,.pointer (some (ad b))),(8,.map (some f)),(9,.slice (some g) xN xC),(10,.int .i64 i),(11,.pointer (some (ad r))),(13,.int .i64 o),(93,.map (some f)),(94,.slice (some g) xN xC)] ((pure (.value (.slice (some g) xN xC)):Sem Next)) (λ_=>by kernel_rfl) (λ_ _ _ _ _=>rfl) (by kernel_rfl) (by kernel_rfl) (by kernel_rfl) (by kernel_rfl) (by kernel_rfl) (by kernel_rfl) (ps (by kernel_rfl)) ?_
       refine G_take 2 (some 95) (.int .i64 i) #[true,true,true,false,false,false,false,false,false,false,false,false,false,false,false,false,false,false,false,false,false,false,false,false,false,false,false,false,false,false] [(5,.pointer (some d)),(6,.slice j m l),(7,.pointer (some (ad b))),(8,.map (some f)),(9,.slice (some g) xN xC),(10,.int .i64 i),(11,.pointer (some (ad r))),(13,.int .i64 o),(93,.map (some f)),(94,.slice (some g) xN xC),(95,.int .i64 i)] ((pure (.value (.int .i64 i)):Sem Next)) (λ_=>by kernel_rfl) (λ_ _ _ _ _=>rfl) (by kernel_rfl) (by kernel_rfl) (by kernel_rfl) (by kernel_rfl) (by kernel_rfl) (by kernel_rfl) (ps (by kernel_rfl)) ?_
       refine G_take 3 (some 96) (.pointer (some (g.add (Int.toNat i*1)))) #[true,true,true,true,false,false,false,false,false,false,false,false,false,false,false,false,false,false,false,false,false,false,false,false,false,false,false,false,false,false] [(5,.pointer (some d)),(6,.slice j m l),(7,.pointer (some (ad b))),(8,.map (some f)),(9,.slice (some g) xN xC),(10,.int .i64 i),(11,.pointer (some (ad r))),(13,.int .i64 o),(93,.map (some f)),(96,.pointer (some (g.add (Int.toNat i*1))))] (indexAtN 67 (.slice (some g) xN xC) (.int .i64 i)) (λ_=>by kernel_rfl) (λ_ w _ _ _=>indexAt_run (P:=Tryz.prog) (t:=67) (elem:=3) (sz:=1) (a:=g) (len:=xN) (cap:=xC) (k:=.i64) (i:=i) Tryz.underlying67 (λ_=>by kernel_rfl) q69.1 q69.2 w) (by kernel_rfl) (by kernel_rfl) (by kernel_rfl) (by kernel_rfl) (by kernel_rfl) (by kernel_rfl) (ps (by kernel_rfl)) ?_
       refine G_take 4 (some 97) (.int .i64 ae) #[true,true,true,true,true,false,false,false,false,false,false,false,false,false,false,false,false,false,false,false,false,false,false,false,false,false,false,false,false,false] [(5,.pointer (some d)),(6,.slice j m l),(7,.pointer (some (ad b))),(8,.map (some f)),(9,.slice (some g) xN xC),(10,.int .i64 i),(11,.pointer (some (ad r))),(13,.int .i64 o),(93,.map (some f)),(97,.int .i64 ae)] (loadN 3 (.pointer (some (g.add (Int.toNat i*1))))) (λ_=>by kernel_rfl) (held_one 29 (λ_=>by kernel_rfl) (List.Mem.head _) (.inl (by kernel_rfl))) (by kernel_rfl) (by kernel_rfl) (by kernel_rfl) (by kernel_rfl) (by kernel_rfl) (by kernel_rfl) (ps (by kernel_rfl)) ?_
       refine G_take 5 (some 98) (.int .i64 (IntKind.wrap .i64 (64*ae))) #[true,true,true,true,true,true,false,false,false,false,false,false,false,false,false,false,false,false,false,false,false,false,false,false,false,false,false,false,false,false] [(5,.pointer (some d)),(6,.slice j m l),(7,.pointer (some (ad b))),(8,.map (some f)),(9,.slice (some g) xN xC),(10,.int .i64 i),(11,.pointer (some (ad r))),(13,.int .i64 o),(93,.map (some f)),(98,.int .i64 (IntKind.wrap .i64 (64*ae)))] ((pure (.value (.int .i64 (IntKind.wrap .i64 (64*ae)))):Sem Next)) (λ_=>by kernel_rfl) (λ_ _ _ _ _=>rfl) (by kernel_rfl) (by kernel_rfl) (by kernel_rfl) (by kernel_rfl) (by kernel_rfl) (by kernel_rfl) (ps (by kernel_rfl)) ?_
       refine G_take 6 (some 99) (.int .i64 o) #[true,true,true,true,true,true,true,false,false,false,false,false,false,false,false,false,false,false,false,false,false,false,false,false,false,false,false,false,false,false] [(5,.pointer (some d)),(6,.slice j m l),(7,.pointer (some (ad b))),(8,.map (some f)),(9,.slice (some g) xN xC),(10,.int .i64 i),(11,.pointer (some (ad r))),(13,.int .i64 o),(93,.map (some f)),(98,.int .i64 (IntKind.wrap .i64 (64*ae))),(99,.int .i64 o)] ((pure (.value (.int .i64 o)):Sem Next)) (λ_=>by kernel_rfl) (λ_ _ _ _ _=>rfl) (by kernel_rfl) (by kernel_rfl) (by kernel_rfl) (by kernel_rfl) (by kernel_rfl) (by kernel_rfl) (ps (by kernel_rfl)) ?_
       refine G_take 7 (some 100) (.int .i64 (IntKind.wrap .i64 ((IntKind.wrap .i64 (64*ae))+o))) #[true,true,true,true,true,true,true,true,false,false,false,false,false,false,false,false,false,false,false,false,false,false,false,false,false,false,false,false,false,false] [(5,.pointer (some d)),(6,.slice j m l),(7,.pointer (some (ad b))),(8,.map (some f)),(9,.slice (some g) xN xC),(10,.int .i64 i),(11,.pointer (some (ad r))),(13,.int .i64 o),(93,.map (some f)),(100,.int .i64 (IntKind.wrap .i64 ((IntKind.wrap .i64 (64*ae))+o)))] ((pure (.value (.int .i64 (IntKind.wrap .i64 ((IntKind.wrap .i64 (64*ae))+o)))):Sem Next)) (λ_=>by kernel_rfl) (λ_ _ _ _ _=>rfl) (by kernel_rfl) (by kernel_rfl) (by kernel_rfl) (by kernel_rfl) (by kernel_rfl) (by kernel_rfl) (ps (by kernel_rfl)) ?_
       refine G_take 8 (some 101) (.pointer (some d)) #[true,true,true,true,true,true,true,true,true,false,false,false,false,false,false,false,false,false,false,false,false,false,false,false,false,false,false,false,false,false] [(5,.pointer (some d)),(6,.slice j m l),(7,.pointer (some (ad b))),(8,.map (some f)),(9,.slice (some g) xN xC),(10,.int .i64 i),(11,.pointer (some (ad r))),(13,.int .i64 o),(93,.map (some f)),(100,.int .i64 (IntKind.wrap .i64 ((IntKind.wrap .i64 (64*ae))+o))),(101,.pointer (some d))] ((pure (.value (.pointer (some d))):Sem Next)) (λ_=>by kernel_rfl) (λ_ _ _ _ _=>rfl) (by kernel_rfl) (by kernel_rfl) (by kernel_rfl) (by kernel_rfl) (by kernel_rfl) (by kernel_rfl) (ps (by kernel_rfl)) ?_
       refine G_take 9 (some 102) (.pointer (some d)) #[true,true,true,true,true,true,true,true,true,true,false,false,false,false,false,false,false,false,false,false,false,false,false,false,false,false,false,false,false,false] [(5,.pointer (some d)),(6,.slice j m l),(7,.pointer (some (ad b))),(8,.map (some f)),(9,.slice (some g) xN xC),(10,.int .i64 i),(11,.pointer (some (ad r))),(13,.int .i64 o),(93,.map (some f)),(100,.int .i64 (IntKind.wrap .i64 ((IntKind.wrap .i64 (64*ae))+o))),(102,.pointer (some d))] ((pure (.value (.pointer (some d))):Sem Next)) (λ_=>by kernel_rfl) (λ_ _ _ _ _=>rfl) (by kernel_rfl) (by kernel_rfl) (by kernel_rfl) (by kernel_rfl) (by kernel_rfl) (by kernel_rfl) (ps (by kernel_rfl)) ?_
       refine G_take 10 (some 103) (.pointer (some d)) #[true,true,true,true,true,true,true,true,true,true,true,false,false,false,false,false,false,false,false,false,false,false,false,false,false,false,false,false,false,false] [(5,.pointer (some d)),(6,.slice j m l),(7,.pointer (some (ad b))),(8,.map (some f)),(9,.slice (some g) xN xC),(10,.int .i64 i),(11,.pointer (some (ad r))),(13,.int .i64 o),(93,.map (some f)),(100,.int .i64 (IntKind.wrap .i64 ((IntKind.wrap .i64 (64*ae))+o))),(103,.pointer (some d))] ((pure (.value (.pointer (some d))):Sem Next)) (λ_=>by kernel_rfl) (λ_ _ _ _ _=>rfl) (by kernel_rfl) (by kernel_rfl) (by kernel_rfl) (by kernel_rfl) (by kernel_rfl) (by kernel_rfl) (ps (by kernel_rfl)) ?_
       refine G_take 11 (some 104) (.pointer (some bg)) #[true,true,true,true,true,true,true,true,true,true,true,true,false,false,false,false,false,false,false,false,false,false,false,false,false,false,false,false,false,false] [(5,.pointer (some d)),(6,.slice j m l),(7,.pointer (some (ad b))),(8,.map (some f)),(9,.slice (some g) xN xC),(10,.int .i64 i),(11,.pointer (some (ad r))),(13,.int .i64 o),(93,.map (some f)),(100,.int .i64 (IntKind.wrap .i64 ((IntKind.wrap .i64 (64*ae))+o))),(104,.pointer (some bg))] (loadN 26 (.pointer (some d))) (λ_=>by kernel_rfl) (held_one 25 (λ_=>by kernel_rfl) (List.Mem.tail _ (List.Mem.head _)) (.inl (by kernel_rfl))) (by kernel_rfl) (by kernel_rfl) (by kernel_rfl) (by kernel_rfl) (by kernel_rfl) (by kernel_rfl) (ps (by kernel_rfl)) ?_
       refine G_take 12 (some 105) (.pointer (some bg)) #[true,true,true,true,true,true,true,true,true,true,true,true,true,false,false,false,false,false,false,false,false,false,false,false,false,false,false,false,false,false] [(5,.pointer (some d)),(6,.slice j m l),(7,.pointer (some (ad b))),(8,.map (some f)),(9,.slice (some g) xN xC),(10,.int .i64 i),(11,.pointer (some (ad r))),(13,.int .i64 o),(93,.map (some f)),(100,.int .i64 (IntKind.wrap .i64 ((IntKind.wrap .i64 (64*ae))+o))),(105,.pointer (some bg))] ((pure (.value (.pointer (some bg))):Sem Next)) (λ_=>by kernel_rfl) (λ_ _ _ _ _=>rfl) (by kernel_rfl) (by kernel_rfl) (by kernel_rfl) (by kernel_rfl) (by kernel_rfl) (by kernel_rfl) (ps (by kernel_rfl)) ?_
       refine G_take 13 (some 106) (.pointer (some bg)) #[true,true,true,true,true,true,true,true,true,true,true,true,true,true,false,false,false,false,false,false,false,false,false,false,false,false,false,false,false,false] [(5,.pointer (some d)),(6,.slice j m l),(7,.pointer (some (ad b))),(8,.map (some f)),(9,.slice (some g) xN xC),(10,.int .i64 i),(11,.pointer (some (ad r))),(13,.int .i64 o),(93,.map (some f)),(100,.int .i64 (IntKind.wrap .i64 ((IntKind.wrap .i64 (64*ae))+o))),(106,.pointer (some bg))] ((pure (.value (.pointer (some bg))):Sem Next)) (λ_=>by kernel_rfl) (λ_ _ _ _ _=>rfl) (by kernel_rfl) (by kernel_rfl) (by kernel_rfl) (by kernel_rfl) (by kernel_rfl) (by kernel_rfl) (ps (by kernel_rfl)) ?_
       refine G_take 14 (some 107) (.pointer (some bf)) #[true,true,true,true,true,true,true,true,true,true,true,true,true,true,true,false,false,false,false,false,false,false,false,false,false,false,false,false,false,false] [(5,.pointer (some d)),(6,.slice j m l),(7,.pointer (some (ad b))),(8,.map (some f)),(9,.slice (some g) xN xC),(10,.int .i64 i),(11,.pointer (some (ad r))),(13,.int .i64 o),(93,.map (some f)),(100,.int .i64 (IntKind.wrap .i64 ((IntKind.wrap .i64 (64*ae))+o))),(107,.pointer (some bf))] (loadN 39 (.pointer (some bg))) (λ_=>by kernel_rfl) (held_one 25 (λ_=>by kernel_rfl) (List.Mem.tail _ (List.Mem.tail _ (List.Mem.head _))) (.inl (by kernel_rfl))) (by kernel_rfl) (by kernel_rfl) (by kernel_rfl) (by kernel_rfl) (by kernel_rfl) (by kernel_rfl) (ps (by kernel_rfl)) ?_
       refine G_take 15 (some 108) (.pointer (some bf)) #[true,true,true,true,true,true,true,true,true,true,true,true,true,true,true,true,false,false,false,false,false,false,false,false,false,false,false,false,false,false] [(5,.pointer (some d)),(6,.slice j m l),(7,.pointer (some (ad b))),(8,.map (some f)),(9,.slice (some g) xN xC),(10,.int .i64 i),(11,.pointer (some (ad r))),(13,.int .i64 o),(93,.map (some f)),(100,.int .i64 (IntKind.wrap .i64 ((IntKind.wrap .i64 (64*ae))+o))),(108,.pointer (some bf))] ((pure (.value (.pointer (some bf))):Sem Next)) (λ_=>by kernel_rfl) (λ_ _ _ _ _=>rfl) (by kernel_rfl) (by kernel_rfl) (by kernel_rfl) (by kernel_rfl) (by kernel_rfl) (by kernel_rfl) (ps (by kernel_rfl)) ?_
       refine G_take 16 (some 109) (.pointer (some bf)) #[true,true,true,true,true,true,true,true,true,true,true,true,true,true,true,true,true,false,false,false,false,false,false,false,false,false,false,false,false,false] [(5,.pointer (some d)),(6,.slice j m l),(7,.pointer (some (ad b))),(8,.map (some f)),(9,.slice (some g) xN xC),(10,.int .i64 i),(11,.pointer (some (ad r))),(13,.int .i64 o),(93,.map (some f)),(100,.int .i64 (IntKind.wrap .i64 ((IntKind.wrap .i64 (64*ae))+o))),(109,.pointer (some bf))] ((pure (.value (.pointer (some bf))):Sem Next)) (λ_=>by kernel_rfl) (λ_ _ _ _ _=>rfl) (by kernel_rfl) (by kernel_rfl) (by kernel_rfl) (by kernel_rfl) (by kernel_rfl) (by kernel_rfl) (ps (by kernel_rfl)) ?_
       refine G_take 17 (some 110) (.pointer bp) #[true,true,true,true,true,true,true,true,true,true,true,true,true,true,true,true,true,true,false,false,false,false,false,false,false,false,false,false,false,false] [(5,.pointer (some d)),(6,.slice j m l),(7,.pointer (some (ad b))),(8,.map (some f)),(9,.slice (some g) xN xC),(10,.int .i64 i),(11,.pointer (some (ad r))),(13,.int .i64 o),(93,.map (some f)),(100,.int .i64 (IntKind.wrap .i64 ((IntKind.wrap .i64 (64*ae))+o))),(110,.pointer bp)] (loadN 69 (.pointer (some bf))) (λ_=>by kernel_rfl) (held_one 25 (λ_=>by kernel_rfl) (List.Mem.tail _ (List.Mem.tail _ (List.Mem.tail _ (List.Mem.head _)))) (.inl (by kernel_rfl))) (by kernel_rfl) (by kernel_rfl) (by kernel_rfl) (by kernel_rfl) (by kernel_rfl) (by kernel_rfl) (ps (by kernel_rfl)) ?_
       refine G_take 18 (some 111) (.slice (some g) xN xC) #[true,true,true,true,true,true,true,true,true,true,true,true,true,true,true,true,true,true,true,false,false,false,false,false,false,false,false,false,false,false] [(5,.pointer (some d)),(6,.slice j m l),(7,.pointer (some (ad b))),(8,.map (some f)),(9,.slice (some g) xN xC),(10,.int .i64 i),(11,.pointer (some (ad r))),(13,.int .i64 o),(93,.map (some f)),(100,.int .i64 (IntKind.wrap .i64 ((IntKind.wrap .i64 (64*ae))+o))),(110,.pointer bp),(111,.slice (some g) xN xC)] ((pure (.value (.slice (some g) xN xC)):Sem Next)) (λ_=>by kernel_rfl) (λ_ _ _ _ _=>rfl) (by kernel_rfl) (by kernel_rfl) (by kernel_rfl) (by kernel_rfl) (by kernel_rfl) (by kernel_rfl) (ps (by kernel_rfl)) ?_
       refine G_take 19 (some 112) (.int .i64 i) #[true,true,true,true,true,true,true,true,true,true,true,true,true,true,true,true,true,true,true,true,false,false,false,false,false,false,false,false,false,false] [(5,.pointer (some d)),(6,.slice j m l),(7,.pointer (some (ad b))),(8,.map (some f)),(9,.slice (some g) xN xC),(10,.int .i64 i),(11,.pointer (some (ad r))),(13,.int .i64 o),(93,.map (some f)),(100,.int .i64 (IntKind.wrap .i64 ((IntKind.wrap .i64 (64*ae))+o))),(110,.pointer bp),(111,.slice (some g) xN xC),(112,.int .i64 i)] ((pure (.value (.int .i64 i)):Sem Next)) (λ_=>by kernel_rfl) (λ_ _ _ _ _=>rfl) (by kernel_rfl) (by kernel_rfl) (by kernel_rfl) (by kernel_rfl) (by kernel_rfl) (by kernel_rfl) (ps (by kernel_rfl)) ?_
       refine G_take 20 (some 113) (.pointer (some (g.add (Int.toNat i*1)))) #[true,true,true,true,true,true,true,true,true,true,true,true,true,true,true,true,true,true,true,true,true,false,false,false,false,false,false,false,false,false] [(5,.pointer (some d)),(6,.slice j m l),(7,.pointer (some (ad b))),(8,.map (some f)),(9,.slice (some g) xN xC),(10,.int .i64 i),(11,.pointer (some (ad r))),(13,.int .i64 o),(93,.map (some f)),(100,.int .i64 (IntKind.wrap .i64 ((IntKind.wrap .i64 (64*ae))+o))),(110,.pointer bp),(113,.pointer (some (g.add (Int.toNat i*1))))] (indexAtN 67 (.slice (some g) xN xC) (.int .i64 i)) (λ_=>by kernel_rfl) (λ_ w _ _ _=>indexAt_run (P:=Tryz.prog) (t:=67) (elem:=3) (sz:=1) (a:=g) (len:=xN) (cap:=xC) (k:=.i64) (i:=i) Tryz.underlying67 (λ_=>by kernel_rfl) q74.1 q74.2 w) (by kernel_rfl) (by kernel_rfl) (by kernel_rfl) (by kernel_rfl) (by kernel_rfl) (by kernel_rfl) (ps (by kernel_rfl)) ?_
       refine G_take 21 (some 114) (.int .i64 bd) #[true,true,true,true,true,true,true,true,true,true,true,true,true,true,true,true,true,true,true,true,true,true,false,false,false,false,false,false,false,false] [(5,.pointer (some d)),(6,.slice j m l),(7,.pointer (some (ad b))),(8,.map (some f)),(9,.slice (some g) xN xC),(10,.int .i64 i),(11,.pointer (some (ad r))),(13,.int .i64 o),(93,.map (some f)),(100,.int .i64 (IntKind.wrap .i64 ((IntKind.wrap .i64 (64*ae))+o))),(110,.pointer bp),(114,.int .i64 bd)] (loadN 3 (.pointer (some (g.add (Int.toNat i*1))))) (λ_=>by kernel_rfl) (held_one 25 (λ_=>by kernel_rfl) (List.Mem.tail _ (List.Mem.tail _ (List.Mem.tail _ (List.Mem.tail _ (List.Mem.head _))))) (.inl (by kernel_rfl))) (by kernel_rfl) (by kernel_rfl) (by kernel_rfl) (by kernel_rfl) (by kernel_rfl) (by kernel_rfl) (ps (by kernel_rfl)) ?_
       refine G_take 22 (some 115) (.int .i64 (IntKind.wrap .i64 (64*bd))) #[true,true,true,true,true,true,true,true,true,true,true,true,true,true,true,true,true,true,true,true,true,true,true,false,false,false,false,false,false,false] [(5,.pointer (some d)),(6,.slice j m l),(7,.pointer (some (ad b))),(8,.map (some f)),(9,.slice (some g) xN xC),(10,.int .i64 i),(11,.pointer (some (ad r))),(13,.int .i64 o),(93,.map (some f)),(100,.int .i64 (IntKind.wrap .i64 ((IntKind.wrap .i64 (64*ae))+o))),(110,.pointer bp),(115,.int .i64 (IntKind.wrap .i64 (64*bd)))] ((pure (.value (.int .i64 (IntKind.wrap .i64 (64*bd)))):Sem Next)) (λ_=>by kernel_rfl) (λ_ _ _ _ _=>rfl) (by kernel_rfl) (by kernel_rfl) (by kernel_rfl) (by kernel_rfl) (by kernel_rfl) (by kernel_rfl) (ps (by kernel_rfl)) ?_
       refine G_take 23 (some 116) (.int .i64 o) #[true,true,true,true,true,true,true,true,true,true,true,true,true,true,true,true,true,true,true,true,true,true,true,true,false,false,false,false,false,false] [(5,.pointer (some d)),(6,.slice j m l),(7,.pointer (some (ad b))),(8,.map (some f)),(9,.slice (some g) xN xC),(10,.int .i64 i),(11,.pointer (some (ad r))),(13,.int .i64 o),(93,.map (some f)),(100,.int .i64 (IntKind.wrap .i64 ((IntKind.wrap .i64 (64*ae))+o))),(110,.pointer bp),(115,.int .i64 (IntKind.wrap .i64 (64*bd))),(116,.int .i64 o)] ((pure (.value (.int .i64 o)):Sem Next)) (λ_=>by kernel_rfl) (λ_ _ _ _ _=>rfl) (by kernel_rfl) (by kernel_rfl) (by kernel_rfl) (by kernel_rfl) (by kernel_rfl) (by kernel_rfl) (ps (by kernel_rfl)) ?_
       refine G_take 24 (some 117) (.int .i64 (IntKind.wrap .i64 ((IntKind.wrap .i64 (64*bd))+o))) #[true,true,true,true,true,true,true,true,true,true,true,true,true,true,true,true,true,true,true,true,true,true,true,true,true,false,false,false,false,false] [(5,.pointer (some d)),(6,.slice j m l),(7,.pointer (some (ad b))),(8,.map (some f)),(9,.slice (some g) xN xC),(10,.int .i64 i),(11,.pointer (some (ad r))),(13,.int .i64 o),(93,.map (some f)),(100,.int .i64 (IntKind.wrap .i64 ((IntKind.wrap .i64 (64*ae))+o))),(110,.pointer bp),(117,.int .i64 (IntKind.wrap .i64 ((IntKind.wrap .i64 (64*bd))+o)))] ((pure (.value (.int .i64 (IntKind.wrap .i64 ((IntKind.wrap .i64 (64*bd))+o)))):Sem Next)) (λ_=>by kernel_rfl) (λ_ _ _ _ _=>rfl) (by kernel_rfl) (by kernel_rfl) (by kernel_rfl) (by kernel_rfl) (by kernel_rfl) (by kernel_rfl) (ps (by kernel_rfl)) ?_
       refine G_call 25 (some 118) #[true,true,true,true,true,true,true,true,true,true,true,true,true,true,true,true,true,true,true,true,true,true,true,true,true,true,false,false,false,false] 25 #[.pointer bp,.int .i64 (IntKind.wrap .i64 ((IntKind.wrap .i64 (64*bd))+o))] (by kernel_rfl) (λ_=>by kernel_rfl) h (by kernel_rfl) ?_;clear h
       rintro d6 da ⟨bb,b8,rfl,h⟩
       obtain⟨f76,h⟩:=h
       refine⟨[(5,.pointer (some d)),(6,.slice j m l),(7,.pointer (some (ad b))),(8,.map (some f)),(9,.slice (some g) xN xC),(10,.int .i64 i),(11,.pointer (some (ad r))),(13,.int .i64 o),(93,.map (some f)),(100,.int .i64 (IntKind.wrap .i64 ((IntKind.wrap .i64 (64*ae))+o))),(118,.tuple #[.int .u64 bb,.int .i64 b8])],ps (by kernel_rfl),(show FactsAt _ _ _ from⟨f76,trivial,trivial,trivial,trivial,trivial⟩),?_⟩
       refine G_take 26 (some 92) (.tuple #[.int .u64 bb,.int .i64 b8]) #[true,true,true,true,true,true,true,true,true,true,true,true,true,true,true,true,true,true,true,true,true,true,true,true,true,true,true,false,false,false] [(5,.pointer (some d)),(6,.slice j m l),(7,.pointer (some (ad b))),(8,.map (some f)),(9,.slice (some g) xN xC),(10,.int .i64 i),(11,.pointer (some (ad r))),(13,.int .i64 o),(92,.tuple #[.int .u64 bb,.int .i64 b8]),(93,.map (some f)),(100,.int .i64 (IntKind.wrap .i64 ((IntKind.wrap .i64 (64*ae))+o)))] (pure (.value (.tuple #[.int .u64 bb,.int .i64 b8])):Sem Next) (λ_=>by kernel_rfl) (λ_ _ _ _ _=>rfl) (by kernel_rfl) (by kernel_rfl) (by kernel_rfl) (by kernel_rfl) (by kernel_rfl) (by kernel_rfl) (ps (by kernel_rfl)) ?_
       refine G_take 27 (some 119) (.int .u64 bb) #[true,true,true,true,true,true,true,true,true,true,true,true,true,true,true,true,true,true,true,true,true,true,true,true,true,true,true,true,false,false] [(5,.pointer (some d)),(6,.slice j m l),(7,.pointer (some (ad b))),(8,.map (some f)),(9,.slice (some g) xN xC),(10,.int .i64 i),(11,.pointer (some (ad r))),(13,.int .i64 o),(92,.tuple #[.int .u64 bb,.int .i64 b8]),(93,.map (some f)),(100,.int .i64 (IntKind.wrap .i64 ((IntKind.wrap .i64 (64*ae))+o))),(119,.int .u64 bb)] (pure (.value (.int .u64 bb)):Sem Next) (λ_=>by kernel_rfl) (λ_ _ _ _ _=>rfl) (by kernel_rfl) (by kernel_rfl) (by kernel_rfl) (by kernel_rfl) (by kernel_rfl) (by kernel_rfl) (ps (by kernel_rfl)) ?_
       refine G_take 28 (some 120) (.int .i64 b8) #[true,true,true,true,true,true,true,true,true,true,true,true,true,true,true,true,true,true,true,true,true,true,true,true,true,true,true,true,true,false] [(5,.pointer (some d)),(6,.slice j m l),(7,.pointer (some (ad b))),(8,.map (some f)),(9,.slice (some g) xN xC),(10,.int .i64 i),(11,.pointer (some (ad r))),(13,.int .i64 o),(93,.map (some f)),(100,.int .i64 (IntKind.wrap .i64 ((IntKind.wrap .i64 (64*ae))+o))),(119,.int .u64 bb)] (pure (.value (.int .i64 b8)):Sem Next) (λ_=>by kernel_rfl) (λ_ _ _ _ _=>rfl) (by kernel_rfl) (by kernel_rfl) (by kernel_rfl) (by kernel_rfl) (by kernel_rfl) (by kernel_rfl) (ps (by kernel_rfl)) ?_
       obtain⟨cy,cl_3,ks_2,q77,q78,h⟩:=h
       refine G_onlyskip 29 none #[true,true,true,true,true,true,true,true,true,true,true,true,true,true,true,true,true,true,true,true,true,true,true,true,true,true,true,true,true,true] (mapPutN 74 (.map (some f)) (.int .i64 (IntKind.wrap .i64 ((IntKind.wrap .i64 (64*ae))+o))) (.int .u64 bb)) (λHz=> ∃es2 cl2,Hz=setBlk da f (.map es2 cl2)/\Ents (intKey .i64) es2.toList (mput ks_2 (IntKind.wrap .i64 ((IntKind.wrap .i64 (64*ae))+o)) (.int .u64 bb))/\(Born cy cl_3->Born es2 cl2)) (by kernel_rfl) (λ_=>by kernel_rfl) (λw hw=>by obtain⟨es2,cl2,q1,q2,q3⟩:=mapPut_runB (kk:=(intKey .i64)) (P:=Tryz.prog) (w:=w) (k:=(IntKind.wrap .i64 ((IntKind.wrap .i64 (64*ae))+o))) (v:=.int .u64 bb) Tryz.underlying74 Tryz.underlying3 (by rw[hw];exact q77) q78;exact⟨_,q1,⟨rfl,rfl,rfl,Nat.le_refl _⟩,es2,cl2,by rw[<-hw],q2,q3⟩) (by kernel_rfl) ?_
       rintro H20 ⟨cu,cl_4,e79,e80,e81⟩
       replace h:=h cu cl_4 H20 e79 e80 e81
       refine⟨[(5,.pointer (some d)),(6,.slice j m l),(7,.pointer (some (ad b))),(8,.map (some f)),(9,.slice (some g) xN xC),(10,.int .i64 i),(11,.pointer (some (ad r))),(13,.int .i64 o)],ps (by kernel_rfl),(show FactsAt _ _ _ from⟨trivial,trivial,trivial,trivial,trivial,trivial⟩),?_⟩
       refine G_sub [(5,.pointer (some d)),(6,.slice j m l),(7,.pointer (some (ad b))),(8,.map (some f)),(9,.slice (some g) xN xC),(10,.int .i64 i),(11,.pointer (some (ad r))),(13,.int .i64 o)] (sb (by kernel_rfl)) ?_
       refine G_end (by kernel_rfl) ?_
       refine S_blockEnd ?_
       refine S_then ?_
       refine S_region 13 (Code.ops kk47) (by kernel_rfl) ?_
       refine N_run 3 [(5,.pointer (some d)),(6,.slice j m l),(7,.pointer (some (ad b))),(8,.map (some f)),(9,.slice (some g) xN xC),(10,.int .i64 i),(11,.pointer (some (ad r))),(13,.int .i64 (IntKind.wrap .i64 (o+1)))] (λ_=>by kernel_rfl) ?_
       refine T_e ?_
       exact S_round ((IntKind.wrap .i64 (o+1)):Int) (sb (by kernel_rfl)) h
      ·rw[if_neg c67]at h
       have b68:(decide (b3>cg))=false:=decide_eq_false c67
       refine S_env [(5,.pointer (some d)),(6,.slice j m l),(7,.pointer (some (ad b))),(8,.map (some f)),(9,.slice (some g) xN xC),(10,.int .i64 i),(11,.pointer (some (ad r))),(13,.int .i64 o),(89,.bool false)] (by simp only[b68,Bool.not_true,Bool.not_false]) ?_
       clear b68
       refine S_condF (.tmp 89) kk44 kk45 (by kernel_rfl) (by kernel_rfl) ?_
       refine S_exit 2 (by kernel_rfl) ?_
       refine S_exitThen ?_
       refine S_exitThen ?_
       refine S_exitHere ?_
       refine S_blockEnd ?_
       refine S_then ?_
       refine S_region 9 (Code.ops kk32) (by kernel_rfl) ?_
       refine N_run 3 [(5,.pointer (some d)),(6,.slice j m l),(7,.pointer (some (ad b))),(8,.map (some f)),(9,.slice (some g) xN xC),(10,.int .i64 (IntKind.wrap .i64 (i+1)))] (λ_=>by kernel_rfl) ?_
       refine T_e ?_
       exact S_round ((IntKind.wrap .i64 (i+1)):Int) (sb (by kernel_rfl)) h
     ·rw[if_neg c63]at h
      have b64:(decide (o<cc))=false:=decide_eq_false c63
      refine N_env [(5,.pointer (some d)),(6,.slice j m l),(7,.pointer (some (ad b))),(8,.map (some f)),(9,.slice (some g) xN xC),(10,.int .i64 i),(11,.pointer (some (ad r))),(13,.int .i64 o),(83,.bool false)] (by simp only[b64,Bool.not_true,Bool.not_false]) ?_
      clear b64
      refine N_run 6 [(5,.pointer (some d)),(6,.slice j m l),(7,.pointer (some (ad b))),(8,.map (some f)),(9,.slice (some g) xN xC),(10,.int .i64 i),(11,.pointer (some (ad r))),(13,.int .i64 o),(89,.bool false)] (λ_=>by kernel_rfl) ?_
      refine T_e ?_
      refine S_condF (.tmp 89) kk44 kk45 (by kernel_rfl) (by kernel_rfl) ?_
      refine S_exit 2 (by kernel_rfl) ?_
      refine S_exitThen ?_
      refine S_exitThen ?_
      refine S_exitHere ?_
      refine S_blockEnd ?_
      refine S_then ?_
      refine S_region 9 (Code.ops kk32) (by kernel_rfl) ?_
      refine N_run 3 [(5,.pointer (some d)),(6,.slice j m l),(7,.pointer (some (ad b))),(8,.map (some f)),(9,.slice (some g) xN xC),(10,.int .i64 (IntKind.wrap .i64 (i+1)))] (λ_=>by kernel_rfl) ?_
      refine T_e ?_
      exact S_round ((IntKind.wrap .i64 (i+1)):Int) (sb (by kernel_rfl)) h
   ·rw[if_neg c17]at h
    have b18:(decide (i< (xN:Int)))=false:=decide_eq_false c17
    refine S_env [(5,.pointer (some d)),(6,.slice j m l),(7,.pointer (some (ad b))),(8,.map (some f)),(9,.slice xB xN xC),(10,.int .i64 i),(58,.bool false)] (by simp only[b18,Bool.not_true,Bool.not_false]) ?_
    clear b18
    refine S_condF (.tmp 58) kk29 kk30 (by kernel_rfl) (by kernel_rfl) ?_
    refine S_exit 0 (by kernel_rfl) ?_
    refine S_exitThen ?_
    refine S_exitThen ?_
    refine S_exitHere ?_
    refine S_then ?_
    refine T_sr 15 kk49 kk50 ?_
    refine N_run 1 [(5,.pointer (some d)),(6,.slice j m l),(7,.pointer (some (ad b))),(8,.map (some f)),(121,.pointer (some d))] (λ_=>by kernel_rfl) ?_
    obtain⟨bc,a8,a9,ay,a1,az,au,aq,av,cj,a0,bu,q82,h⟩:=h
    refine N_val (some 122) (loadN 55 (.pointer (some (ad b)))) (.agg #[.slice bc a8 a9,.slice ay a1 az,.slice au aq av,.int .i64 cj,.int .i64 a0,.int .u32 bu]) (λ_=>by kernel_rfl) (loadN_run (loadOK_row (λ_=>by kernel_rfl) (λ_=>by kernel_rfl) q82)) [(5,.pointer (some d)),(6,.slice j m l),(7,.pointer (some (ad b))),(8,.map (some f)),(121,.pointer (some d)),(122,.agg #[.slice bc a8 a9,.slice ay a1 az,.slice au aq av,.int .i64 cj,.int .i64 a0,.int .u32 bu])] (ps (by kernel_rfl)) ?_
    refine N_run 1 [(5,.pointer (some d)),(7,.pointer (some (ad b))),(8,.map (some f)),(121,.pointer (some d)),(122,.agg #[.slice bc a8 a9,.slice ay a1 az,.slice au aq av,.int .i64 cj,.int .i64 a0,.int .u32 bu]),(123,.slice j m l)] (λ_=>by kernel_rfl) ?_
    refine N_call (some 124) 17 #[.pointer (some d),.agg #[.slice bc a8 a9,.slice ay a1 az,.slice au aq av,.int .i64 cj,.int .i64 a0,.int .u32 bu],.slice j m l] (λ_=>by kernel_rfl) h ?_;clear h
    rintro dz dm ⟨bj,be,br,rfl,h⟩
    refine⟨[(5,.pointer (some d)),(7,.pointer (some (ad b))),(8,.map (some f)),(124,.slice bj be br)],ps (by kernel_rfl),?_⟩
    refine N_run 1 [(5,.pointer (some d)),(7,.pointer (some (ad b))),(8,.map (some f)),(14,.slice bj be br)] (λ_=>by kernel_rfl) ?_
    refine T_e ?_
    refine S_seq kk51 kk52 (by kernel_rfl) ?_
    obtain⟨bw,q83,h⟩:=h
    obtain⟨b7,q84,h⟩:=h
    refine S_regionG 16 (Code.ops kk51) [(7,((ad b).add 3),[.int .i64 bw]),(7,((ad b).add 4),[.int .i64 b7])] 9 #[false,false,false,false,false,false,false,false,false] (by kernel_rfl) (by kernel_rfl) (by kernel_rfl) (by kernel_rfl) (by kernel_rfl) (show FactsAt _ _ _ from⟨⟨q83,trivial⟩,⟨q84,trivial⟩,trivial⟩) ?_
    refine G_take 0 (some 125) (.pointer (some d)) #[true,false,false,false,false,false,false,false,false] [(5,.pointer (some d)),(7,.pointer (some (ad b))),(8,.map (some f)),(14,.slice bj be br),(125,.pointer (some d))] ((pure (.value (.pointer (some d))):Sem Next)) (λ_=>by kernel_rfl) (λ_ _ _ _ _=>rfl) (by kernel_rfl) (by kernel_rfl) (by kernel_rfl) (by kernel_rfl) (by kernel_rfl) (by kernel_rfl) (ps (by kernel_rfl)) ?_
    refine G_take 1 (some 126) (.pointer (some ((ad b).add 3))) #[true,true,false,false,false,false,false,false,false] [(5,.pointer (some d)),(7,.pointer (some (ad b))),(8,.map (some f)),(14,.slice bj be br),(125,.pointer (some d)),(126,.pointer (some ((ad b).add 3)))] ((pure (.value (.pointer (some ((ad b).add 3)))):Sem Next)) (λ_=>by kernel_rfl) (λ_ _ _ _ _=>rfl) (by kernel_rfl) (by kernel_rfl) (by kernel_rfl) (by kernel_rfl) (by kernel_rfl) (by kernel_rfl) (ps (by kernel_rfl)) ?_
    refine G_take 2 (some 127) (.int .i64 bw) #[true,true,true,false,false,false,false,false,false] [(5,.pointer (some d)),(7,.pointer (some (ad b))),(8,.map (some f)),(14,.slice bj be br),(125,.pointer (some d)),(127,.int .i64 bw)] (loadN 3 (.pointer (some ((ad b).add 3)))) (λ_=>by kernel_rfl) (held_one 7 (λ_=>by kernel_rfl) (List.Mem.head _) (.inl (by kernel_rfl))) (by kernel_rfl) (by kernel_rfl) (by kernel_rfl) (by kernel_rfl) (by kernel_rfl) (by kernel_rfl) (ps (by kernel_rfl)) ?_
    refine G_take 3 (some 128) (.pointer (some ((ad b).add 4))) #[true,true,true,true,false,false,false,false,false] [(5,.pointer (some d)),(7,.pointer (some (ad b))),(8,.map (some f)),(14,.slice bj be br),(125,.pointer (some d)),(127,.int .i64 bw),(128,.pointer (some ((ad b).add 4)))] ((pure (.value (.pointer (some ((ad b).add 4)))):Sem Next)) (λ_=>by kernel_rfl) (λ_ _ _ _ _=>rfl) (by kernel_rfl) (by kernel_rfl) (by kernel_rfl) (by kernel_rfl) (by kernel_rfl) (by kernel_rfl) (ps (by kernel_rfl)) ?_
    refine G_take 4 (some 129) (.int .i64 b7) #[true,true,true,true,true,false,false,false,false] [(5,.pointer (some d)),(7,.pointer (some (ad b))),(8,.map (some f)),(14,.slice bj be br),(125,.pointer (some d)),(127,.int .i64 bw),(129,.int .i64 b7)] (loadN 3 (.pointer (some ((ad b).add 4)))) (λ_=>by kernel_rfl) (held_one 7 (λ_=>by kernel_rfl) (List.Mem.tail _ (List.Mem.head _)) (.inl (by kernel_rfl))) (by kernel_rfl) (by kernel_rfl) (by kernel_rfl) (by kernel_rfl) (by kernel_rfl) (by kernel_rfl) (ps (by kernel_rfl)) ?_
    refine G_take 5 (some 130) (.slice bj be br) #[true,true,true,true,true,true,false,false,false] [(5,.pointer (some d)),(7,.pointer (some (ad b))),(8,.map (some f)),(125,.pointer (some d)),(127,.int .i64 bw),(129,.int .i64 b7),(130,.slice bj be br)] ((pure (.value (.slice bj be br)):Sem Next)) (λ_=>by kernel_rfl) (λ_ _ _ _ _=>rfl) (by kernel_rfl) (by kernel_rfl) (by kernel_rfl) (by kernel_rfl) (by kernel_rfl) (by kernel_rfl) (ps (by kernel_rfl)) ?_
    refine G_call 6 (some 131) #[true,true,true,true,true,true,true,false,false] 18 #[.slice bj be br] (by kernel_rfl) (λ_=>by kernel_rfl) h (by kernel_rfl) ?_;clear h
    rintro dw dl ⟨cz,cw,cs,rfl,h⟩
    obtain⟨f85,f86,h⟩:=h
    refine⟨[(5,.pointer (some d)),(7,.pointer (some (ad b))),(8,.map (some f)),(125,.pointer (some d)),(127,.int .i64 bw),(129,.int .i64 b7),(131,.slice cz cw cs)],ps (by kernel_rfl),(show FactsAt _ _ _ from⟨f85,f86,trivial⟩),?_⟩
    refine G_call 7 (some 132) #[true,true,true,true,true,true,true,true,false] 9 #[.pointer (some d),.int .i64 bw,.int .i64 b7,.slice cz cw cs] (by kernel_rfl) (λ_=>by kernel_rfl) h (by kernel_rfl) ?_;clear h
    rintro dt dk ⟨n,rfl,h⟩
    refine⟨[(5,.pointer (some d)),(7,.pointer (some (ad b))),(8,.map (some f)),(132,.int .i64 n)],ps (by kernel_rfl),(show FactsAt _ _ _ from⟨trivial,trivial,trivial⟩),?_⟩
    refine G_take 8 (some 15) (.int .i64 n) #[true,true,true,true,true,true,true,true,true] [(5,.pointer (some d)),(7,.pointer (some (ad b))),(8,.map (some f)),(15,.int .i64 n)] (pure (.value (.int .i64 n)):Sem Next) (λ_=>by kernel_rfl) (λ_ _ _ _ _=>rfl) (by kernel_rfl) (by kernel_rfl) (by kernel_rfl) (by kernel_rfl) (by kernel_rfl) (by kernel_rfl) (ps (by kernel_rfl)) ?_
    refine G_sub [(5,.pointer (some d)),(7,.pointer (some (ad b))),(8,.map (some f)),(15,.int .i64 n)] (sb (by kernel_rfl)) ?_
    refine G_end (by kernel_rfl) ?_
    refine S_then ?_
    refine S_seq kk53 kk54 (by kernel_rfl) ?_
    refine T_sr 17 kk55 kk56 ?_
    refine N_run 1 [(5,.pointer (some d)),(7,.pointer (some (ad b))),(15,.int .i64 n),(133,.map (some f))] (λ_=>by kernel_rfl) ?_
    obtain⟨dv,cl_5,q89,h⟩:=h
    refine N_op (some 134) (rangeN 74 (.map (some f))) _ (λ_=>by kernel_rfl) (range_map Tryz.underlying74 q89) ?_
    rintro _ H24 ⟨p,e87,rfl,e88⟩
    replace h:=h p H24 e87 e88
    refine⟨[(5,.pointer (some d)),(7,.pointer (some (ad b))),(15,.int .i64 n),(134,.pointer (some (ad p)))],ps (by kernel_rfl),?_⟩
    refine T_e ?_
    refine S_block 4 kk57 (by kernel_rfl) ?_
    obtain⟨db,m59,i90,i91⟩:=h
    refine S_loop (x:=kk58) (σ:=Unit) (λs_=> [(5,.pointer (some d)),(7,.pointer (some (ad b))),(15,.int .i64 n),(134,.pointer (some (ad p)))]) (λs_ H=>db H) (λs_ H=>m59 H) (():Unit) (by kernel_rfl) i90 (sb (by kernel_rfl)) ?_
    rintro _ cn i92
    have h:=i91 cn i92
    refine S_sub [(5,.pointer (some d)),(7,.pointer (some (ad b))),(15,.int .i64 n),(134,.pointer (some (ad p)))] (sb (by kernel_rfl)) ?_
    refine T_sr 18 kk59 kk60 ?_
    obtain⟨mr,es_6,cl_6,seen,q93,q94,q95,h96,h97⟩:=h
    refine N_op (some 135) (nextN (.pointer (some (ad p))) false 0) _ (λ_=>by kernel_rfl) (next_map q93 q94 q95) ?_
    rintro _ H26 (⟨en,e98,e99,rfl,e100⟩ | ⟨rfl,rfl⟩)
    ·have h:=h96 en H26 e98 e99 e100
     refine⟨[(5,.pointer (some d)),(7,.pointer (some (ad b))),(15,.int .i64 n),(134,.pointer (some (ad p))),(135,.tuple #[.bool true,en.key,en.val])],ps (by kernel_rfl),?_⟩
     refine N_run 1 [(5,.pointer (some d)),(7,.pointer (some (ad b))),(15,.int .i64 n),(134,.pointer (some (ad p))),(136,.bool true)] (λ_=>by kernel_rfl) ?_
     refine T_e ?_
     refine S_seq kk61 kk62 (by kernel_rfl) ?_
     refine S_condT (.tmp 136) kk63 kk64 (by kernel_rfl) (by kernel_rfl) ?_
     refine S_skip (by kernel_rfl) ?_
     refine S_then ?_
     refine S_block 5 kk65 (by kernel_rfl) ?_
     refine T_sr 19 kk66 kk67 ?_
     refine N_sub [(5,.pointer (some d)),(7,.pointer (some (ad b))),(15,.int .i64 n),(134,.pointer (some (ad p)))] (sb (by kernel_rfl)) ?_
     obtain⟨dh,es_7,cl_7,seen_2,st,ks_3,q101,q102,q103,q104,q105,h⟩:=h
     refine N_op (some 137) (entryN (.pointer (some (ad p)))) _ (λ_=>by kernel_rfl) (entry_map q101 q102 q103 q104 q105) ?_
     rintro _ _ ⟨⟨a6,val⟩,e106,rfl,rfl⟩
     obtain⟨ev,rfl,h⟩:=h a6 val e106
     refine⟨[(5,.pointer (some d)),(7,.pointer (some (ad b))),(15,.int .i64 n),(134,.pointer (some (ad p))),(137,.tuple #[.int .i64 a6,.int .u64 ev])],ps (by kernel_rfl),?_⟩
     refine N_run 4 [(5,.pointer (some d)),(7,.pointer (some (ad b))),(15,.int .i64 n),(16,.int .i64 a6),(17,.int .u64 ev),(134,.pointer (some (ad p)))] (λ_=>by kernel_rfl) ?_
     refine T_e<| T_sr 20 kk68 kk69 ?_
     refine N_run 3 [(5,.pointer (some d)),(7,.pointer (some (ad b))),(15,.int .i64 n),(16,.int .i64 a6),(17,.int .u64 ev),(134,.pointer (some (ad p))),(143,.pointer (some d))] (λ_=>by kernel_rfl) ?_
     obtain⟨cx,q107,h⟩:=h
     refine N_val (some 144) (loadN 26 (.pointer (some d))) (.pointer cx) (λ_=>by kernel_rfl) (loadN_run (loadOK_one (λ_=>by kernel_rfl) q107)) [(5,.pointer (some d)),(7,.pointer (some (ad b))),(15,.int .i64 n),(16,.int .i64 a6),(17,.int .u64 ev),(134,.pointer (some (ad p))),(144,.pointer cx)] (ps (by kernel_rfl)) ?_
     obtain⟨c0,rfl,h⟩:=h
     refine N_run 2 [(5,.pointer (some d)),(7,.pointer (some (ad b))),(15,.int .i64 n),(16,.int .i64 a6),(17,.int .u64 ev),(134,.pointer (some (ad p))),(146,.pointer (some c0))] (λ_=>by kernel_rfl) ?_
     obtain⟨ct,q108,h⟩:=h
     refine N_val (some 147) (loadN 39 (.pointer (some c0))) (.pointer ct) (λ_=>by kernel_rfl) (loadN_run (loadOK_one (λ_=>by kernel_rfl) q108)) [(5,.pointer (some d)),(7,.pointer (some (ad b))),(15,.int .i64 n),(16,.int .i64 a6),(17,.int .u64 ev),(134,.pointer (some (ad p))),(147,.pointer ct)] (ps (by kernel_rfl)) ?_
     obtain⟨cv,rfl,h⟩:=h
     refine N_run 2 [(5,.pointer (some d)),(7,.pointer (some (ad b))),(15,.int .i64 n),(16,.int .i64 a6),(17,.int .u64 ev),(134,.pointer (some (ad p))),(149,.pointer (some cv))] (λ_=>by kernel_rfl) ?_
     obtain⟨ci,q109,h⟩:=h
     refine N_val (some 150) (loadN 69 (.pointer (some cv))) (.pointer ci) (λ_=>by kernel_rfl) (loadN_run (loadOK_one (λ_=>by kernel_rfl) q109)) [(5,.pointer (some d)),(7,.pointer (some (ad b))),(15,.int .i64 n),(16,.int .i64 a6),(17,.int .u64 ev),(134,.pointer (some (ad p))),(150,.pointer ci)] (ps (by kernel_rfl)) ?_
     refine N_run 1 [(5,.pointer (some d)),(7,.pointer (some (ad b))),(15,.int .i64 n),(16,.int .i64 a6),(17,.int .u64 ev),(134,.pointer (some (ad p))),(150,.pointer ci),(151,.int .i64 a6)] (λ_=>by kernel_rfl) ?_
     refine N_call (some 152) 25 #[.pointer ci,.int .i64 a6] (λ_=>by kernel_rfl) h ?_;clear h
     rintro dr du ⟨q,bo,rfl,h⟩
     refine⟨[(5,.pointer (some d)),(7,.pointer (some (ad b))),(15,.int .i64 n),(16,.int .i64 a6),(17,.int .u64 ev),(134,.pointer (some (ad p))),(152,.tuple #[.int .u64 q,.int .i64 bo])],ps (by kernel_rfl),?_⟩
     refine N_run 5 [(5,.pointer (some d)),(7,.pointer (some (ad b))),(15,.int .i64 n),(16,.int .i64 a6),(17,.int .u64 ev),(18,.int .u64 q),(19,.int .i64 bo),(134,.pointer (some (ad p)))] (λ_=>by kernel_rfl) ?_
     refine T_e<| T_sr 21 kk70 kk71 ?_
     refine N_run 3 [(5,.pointer (some d)),(7,.pointer (some (ad b))),(15,.int .i64 n),(16,.int .i64 a6),(17,.int .u64 ev),(18,.int .u64 q),(19,.int .i64 bo),(134,.pointer (some (ad p))),(158,.pointer (some d))] (λ_=>by kernel_rfl) ?_
     obtain⟨ck,q110,h⟩:=h
     refine N_val (some 159) (loadN 26 (.pointer (some d))) (.pointer ck) (λ_=>by kernel_rfl) (loadN_run (loadOK_one (λ_=>by kernel_rfl) q110)) [(5,.pointer (some d)),(7,.pointer (some (ad b))),(15,.int .i64 n),(16,.int .i64 a6),(17,.int .u64 ev),(18,.int .u64 q),(19,.int .i64 bo),(134,.pointer (some (ad p))),(159,.pointer ck)] (ps (by kernel_rfl)) ?_
     refine N_run 4 [(5,.pointer (some d)),(7,.pointer (some (ad b))),(15,.int .i64 n),(17,.int .u64 ev),(18,.int .u64 q),(19,.int .i64 bo),(134,.pointer (some (ad p))),(159,.pointer ck),(163,.int .u64 (ior .u64 (ishl .u64 (IntKind.wrap .u64 a6) 3) 1))] (λ_=>by kernel_rfl) ?_
     refine N_call (some 164) 15 #[.pointer ck,.int .u64 (ior .u64 (ishl .u64 (IntKind.wrap .u64 a6) 3) 1)] (λ_=>by kernel_rfl) h ?_;clear h
     rintro dq co ⟨am,bs,rfl,h⟩
     refine⟨[(5,.pointer (some d)),(7,.pointer (some (ad b))),(15,.int .i64 n),(17,.int .u64 ev),(18,.int .u64 q),(19,.int .i64 bo),(134,.pointer (some (ad p))),(164,.tuple #[.int .i64 am,.bool bs])],ps (by kernel_rfl),?_⟩
     refine N_run 5 [(5,.pointer (some d)),(7,.pointer (some (ad b))),(15,.int .i64 n),(17,.int .u64 ev),(18,.int .u64 q),(19,.int .i64 bo),(20,.int .i64 am),(21,.bool bs),(134,.pointer (some (ad p)))] (λ_=>by kernel_rfl) ?_
     refine T_e ?_
     refine S_seq kk72 kk73 (by kernel_rfl) ?_
     refine T_sr 22 kk74 kk75 ?_
     refine N_run 3 [(5,.pointer (some d)),(7,.pointer (some (ad b))),(15,.int .i64 n),(17,.int .u64 ev),(18,.int .u64 q),(20,.int .i64 am),(21,.bool bs),(134,.pointer (some (ad p))),(169,.bool (bo !=0))] (λ_=>by kernel_rfl) ?_
     by_cases c111:bo=0
     ·rw[if_pos c111]at h
      have b112:(bo !=0)=false:=bne_eq_false_iff_eq.mpr c111
      refine N_env [(5,.pointer (some d)),(7,.pointer (some (ad b))),(15,.int .i64 n),(17,.int .u64 ev),(18,.int .u64 q),(20,.int .i64 am),(21,.bool bs),(134,.pointer (some (ad p))),(169,.bool false)] (by simp only[b112,Bool.not_true,Bool.not_false]) ?_
      clear b112
      refine N_run 4 [(5,.pointer (some d)),(7,.pointer (some (ad b))),(15,.int .i64 n),(17,.int .u64 ev),(18,.int .u64 q),(20,.int .i64 am),(134,.pointer (some (ad p))),(173,.bool (!bs))] (λ_=>by kernel_rfl) ?_
      by_cases c113:bs=true
      ·rw[if_pos c113]at h
       have b114:(!bs)=false:=congrArg Bool.not (c113)
       have b1142:bs=true:=c113
       refine N_env [(5,.pointer (some d)),(7,.pointer (some (ad b))),(15,.int .i64 n),(17,.int .u64 ev),(18,.int .u64 q),(20,.int .i64 am),(134,.pointer (some (ad p))),(173,.bool false)] (by simp only[b114,b1142,Bool.not_true,Bool.not_false]) ?_
       clear b114 b1142
       refine N_run 2 [(5,.pointer (some d)),(7,.pointer (some (ad b))),(15,.int .i64 n),(17,.int .u64 ev),(18,.int .u64 q),(134,.pointer (some (ad p))),(173,.bool false),(174,.int .i64 am),(175,.pointer (some ((ad b).add 3)))] (λ_=>by kernel_rfl) ?_
       obtain⟨a7,q115,h⟩:=h
       refine N_val (some 176) (loadN 3 (.pointer (some ((ad b).add 3)))) (.int .i64 a7) (λ_=>by kernel_rfl) (loadN_run (loadOK_one (λ_=>by kernel_rfl) q115)) [(5,.pointer (some d)),(7,.pointer (some (ad b))),(15,.int .i64 n),(17,.int .u64 ev),(18,.int .u64 q),(134,.pointer (some (ad p))),(173,.bool false),(174,.int .i64 am),(176,.int .i64 a7)] (ps (by kernel_rfl)) ?_
       refine N_run 2 [(5,.pointer (some d)),(7,.pointer (some (ad b))),(15,.int .i64 n),(17,.int .u64 ev),(18,.int .u64 q),(134,.pointer (some (ad p))),(173,.bool false),(178,.bool (decide (am<=a7)))] (λ_=>by kernel_rfl) ?_
       refine N_cut [(5,.pointer (some d)),(7,.pointer (some (ad b))),(15,.int .i64 n),(17,.int .u64 ev),(18,.int .u64 q),(134,.pointer (some (ad p))),(182,.bool ((decide (am<=a7)) && (n==0)))] ?_ ?_
       ·refine S_then ?_
        by_cases c118:((decide (am<=a7)) && (n==0))=true
        ·rw[if_pos c118]at h
         have b119:((decide (am<=a7)) && (n==0))=true:=c118
         refine S_env [(5,.pointer (some d)),(7,.pointer (some (ad b))),(15,.int .i64 n),(17,.int .u64 ev),(18,.int .u64 q),(134,.pointer (some (ad p))),(182,.bool true)] (by simp only[b119,Bool.not_true,Bool.not_false]) ?_
         clear b119
         refine S_condT (.tmp 182) kk76 kk77 (by kernel_rfl) (by kernel_rfl) ?_
         refine T_sr 23 kk78 kk79 ?_
         refine N_run 1 [(4,.bool false)] (λ_=>by kernel_rfl) ?_
         refine T_e ?_
         refine S_ret (by kernel_rfl) ?_
         show At _ _ _ _ _ (Q .ret)
         exact S_done (fn:=Tryz.f7) [.bool false] hQ (show ResOK _ _ _ [.tmp 4] _ from .tmp (by kernel_rfl) (.nil)) h
        ·rw[if_neg c118]at h
         have b119:((decide (am<=a7)) && (n==0))=false:=eq_false_of_ne_true c118
         refine S_env [(5,.pointer (some d)),(7,.pointer (some (ad b))),(15,.int .i64 n),(17,.int .u64 ev),(18,.int .u64 q),(134,.pointer (some (ad p))),(182,.bool false)] (by simp only[b119,Bool.not_true,Bool.not_false]) ?_
         clear b119
         refine S_condF (.tmp 182) kk76 kk77 (by kernel_rfl) (by kernel_rfl) ?_
         refine S_skip (by kernel_rfl) ?_
         refine S_then ?_
         refine T_sr 24 kk80 kk81 ?_
         refine N_cut [(5,.pointer (some d)),(7,.pointer (some (ad b))),(15,.int .i64 n),(17,.int .u64 ev),(18,.int .u64 q),(22,.bool ((((iand .u64 ev 7)==1) || ((iand .u64 ev 7)==2)) || ((iand .u64 ev 7)==3))),(134,.pointer (some (ad p)))] ?_ ?_
         ·refine S_then ?_
          refine T_sr 25 kk82 kk83 ?_
          refine N_cut [(5,.pointer (some d)),(7,.pointer (some (ad b))),(15,.int .i64 n),(134,.pointer (some (ad p))),(202,.bool ((!((((iand .u64 ev 7)==1) || ((iand .u64 ev 7)==2)) || ((iand .u64 ev 7)==3))) && (q !=ev)))] ?_ ?_
          ·refine S_then ?_
           by_cases c126:((!((((iand .u64 ev 7)==1) || ((iand .u64 ev 7)==2)) || ((iand .u64 ev 7)==3))) && (q !=ev))=true
           ·rw[if_pos c126]at h
            have b127:((!((((iand .u64 ev 7)==1) || ((iand .u64 ev 7)==2)) || ((iand .u64 ev 7)==3))) && (q !=ev))=true:=c126
            refine S_env [(5,.pointer (some d)),(7,.pointer (some (ad b))),(15,.int .i64 n),(134,.pointer (some (ad p))),(202,.bool true)] (by simp only[b127,Bool.not_true,Bool.not_false]) ?_
            clear b127
            refine S_condT (.tmp 202) kk84 kk85 (by kernel_rfl) (by kernel_rfl) ?_
            refine T_sr 26 kk86 kk87 ?_
            refine N_run 1 [(4,.bool false)] (λ_=>by kernel_rfl) ?_
            refine T_e ?_
            refine S_ret (by kernel_rfl) ?_
            show At _ _ _ _ _ (Q .ret)
            exact S_done (fn:=Tryz.f7) [.bool false] hQ (show ResOK _ _ _ [.tmp 4] _ from .tmp (by kernel_rfl) (.nil)) h
           ·rw[if_neg c126]at h
            have b127:((!((((iand .u64 ev 7)==1) || ((iand .u64 ev 7)==2)) || ((iand .u64 ev 7)==3))) && (q !=ev))=false:=eq_false_of_ne_true c126
            refine S_env [(5,.pointer (some d)),(7,.pointer (some (ad b))),(15,.int .i64 n),(134,.pointer (some (ad p))),(202,.bool false)] (by simp only[b127,Bool.not_true,Bool.not_false]) ?_
            clear b127
            refine S_condF (.tmp 202) kk84 kk85 (by kernel_rfl) (by kernel_rfl) ?_
            refine S_skip (by kernel_rfl) ?_
            refine S_blockEnd ?_
            refine S_then ?_
            exact S_round (s:=()) (():Unit) (sb (by kernel_rfl)) h
          ·intro hk
           refine N_run 3 [(5,.pointer (some d)),(7,.pointer (some (ad b))),(15,.int .i64 n),(17,.int .u64 ev),(18,.int .u64 q),(134,.pointer (some (ad p))),(198,.bool (!((((iand .u64 ev 7)==1) || ((iand .u64 ev 7)==2)) || ((iand .u64 ev 7)==3))))] (λ_=>by kernel_rfl) ?_
           by_cases c124:((((iand .u64 ev 7)==1) || ((iand .u64 ev 7)==2)) || ((iand .u64 ev 7)==3))=true
           ·have b125:(!((((iand .u64 ev 7)==1) || ((iand .u64 ev 7)==2)) || ((iand .u64 ev 7)==3)))=false:=congrArg Bool.not (c124)
            refine N_env [(5,.pointer (some d)),(7,.pointer (some (ad b))),(15,.int .i64 n),(17,.int .u64 ev),(18,.int .u64 q),(134,.pointer (some (ad p))),(198,.bool false)] (by simp only[b125,Bool.not_true,Bool.not_false]) ?_
            refine N_run 4 [(5,.pointer (some d)),(7,.pointer (some (ad b))),(15,.int .i64 n),(134,.pointer (some (ad p))),(202,.bool false)] (λ_=>by kernel_rfl) ?_
            refine N_end (by kernel_rfl) ?_
            refine S_env [(5,.pointer (some d)),(7,.pointer (some (ad b))),(15,.int .i64 n),(134,.pointer (some (ad p))),(202,.bool ((!((((iand .u64 ev 7)==1) || ((iand .u64 ev 7)==2)) || ((iand .u64 ev 7)==3))) && (q !=ev)))] (by simp only[b125,Bool.true_or,Bool.false_or,Bool.or_true,Bool.or_false,Bool.true_and,Bool.false_and,Bool.and_true,Bool.and_false,Bool.not_true,Bool.not_false,cond_true,cond_false]) ?_
            exact hk
           ·have b125:(!((((iand .u64 ev 7)==1) || ((iand .u64 ev 7)==2)) || ((iand .u64 ev 7)==3)))=true:=congrArg Bool.not (eq_false_of_ne_true c124)
            refine N_env [(5,.pointer (some d)),(7,.pointer (some (ad b))),(15,.int .i64 n),(17,.int .u64 ev),(18,.int .u64 q),(134,.pointer (some (ad p))),(198,.bool true)] (by simp only[b125,Bool.not_true,Bool.not_false]) ?_
            refine N_run 4 [(5,.pointer (some d)),(7,.pointer (some (ad b))),(15,.int .i64 n),(134,.pointer (some (ad p))),(202,.bool (q !=ev))] (λ_=>by kernel_rfl) ?_
            refine N_end (by kernel_rfl) ?_
            refine S_env [(5,.pointer (some d)),(7,.pointer (some (ad b))),(15,.int .i64 n),(134,.pointer (some (ad p))),(202,.bool ((!((((iand .u64 ev 7)==1) || ((iand .u64 ev 7)==2)) || ((iand .u64 ev 7)==3))) && (q !=ev)))] (by simp only[b125,Bool.true_or,Bool.false_or,Bool.or_true,Bool.or_false,Bool.true_and,Bool.false_and,Bool.and_true,Bool.and_false,Bool.not_true,Bool.not_false,cond_true,cond_false]) ?_
            exact hk
         ·intro hk
          refine N_run 4 [(5,.pointer (some d)),(7,.pointer (some (ad b))),(15,.int .i64 n),(17,.int .u64 ev),(18,.int .u64 q),(134,.pointer (some (ad p))),(186,.bool ((iand .u64 ev 7)==1))] (λ_=>by kernel_rfl) ?_
          by_cases c120:(iand .u64 ev 7)=1
          ·have b121:((iand .u64 ev 7)==1)=true:=beq_iff_eq.mpr c120
           refine N_env [(5,.pointer (some d)),(7,.pointer (some (ad b))),(15,.int .i64 n),(17,.int .u64 ev),(18,.int .u64 q),(134,.pointer (some (ad p))),(186,.bool true)] (by simp only[b121,Bool.not_true,Bool.not_false]) ?_
           refine N_run 10 [(5,.pointer (some d)),(7,.pointer (some (ad b))),(15,.int .i64 n),(17,.int .u64 ev),(18,.int .u64 q),(22,.bool true),(134,.pointer (some (ad p)))] (λ_=>by kernel_rfl) ?_
           refine N_end (by kernel_rfl) ?_
           refine S_env [(5,.pointer (some d)),(7,.pointer (some (ad b))),(15,.int .i64 n),(17,.int .u64 ev),(18,.int .u64 q),(22,.bool ((((iand .u64 ev 7)==1) || ((iand .u64 ev 7)==2)) || ((iand .u64 ev 7)==3))),(134,.pointer (some (ad p)))] (by simp only[b121,Bool.true_or,Bool.false_or,Bool.or_true,Bool.or_false,Bool.true_and,Bool.false_and,Bool.and_true,Bool.and_false,Bool.not_true,Bool.not_false,cond_true,cond_false]) ?_
           exact hk
          ·have b121:((iand .u64 ev 7)==1)=false:=beq_eq_false_iff_ne.mpr c120
           refine N_env [(5,.pointer (some d)),(7,.pointer (some (ad b))),(15,.int .i64 n),(17,.int .u64 ev),(18,.int .u64 q),(134,.pointer (some (ad p))),(186,.bool false)] (by simp only[b121,Bool.not_true,Bool.not_false]) ?_
           refine N_run 5 [(5,.pointer (some d)),(7,.pointer (some (ad b))),(15,.int .i64 n),(17,.int .u64 ev),(18,.int .u64 q),(134,.pointer (some (ad p))),(191,.bool ((iand .u64 ev 7)==2))] (λ_=>by kernel_rfl) ?_
           by_cases c122:(iand .u64 ev 7)=2
           ·have b123:((iand .u64 ev 7)==2)=true:=beq_iff_eq.mpr c122
            refine N_env [(5,.pointer (some d)),(7,.pointer (some (ad b))),(15,.int .i64 n),(17,.int .u64 ev),(18,.int .u64 q),(134,.pointer (some (ad p))),(191,.bool true)] (by simp only[b123,Bool.not_true,Bool.not_false]) ?_
            refine N_run 5 [(5,.pointer (some d)),(7,.pointer (some (ad b))),(15,.int .i64 n),(17,.int .u64 ev),(18,.int .u64 q),(22,.bool true),(134,.pointer (some (ad p)))] (λ_=>by kernel_rfl) ?_
            refine N_end (by kernel_rfl) ?_
            refine S_env [(5,.pointer (some d)),(7,.pointer (some (ad b))),(15,.int .i64 n),(17,.int .u64 ev),(18,.int .u64 q),(22,.bool ((((iand .u64 ev 7)==1) || ((iand .u64 ev 7)==2)) || ((iand .u64 ev 7)==3))),(134,.pointer (some (ad p)))] (by simp only[b121,b123,Bool.true_or,Bool.false_or,Bool.or_true,Bool.or_false,Bool.true_and,Bool.false_and,Bool.and_true,Bool.and_false,Bool.not_true,Bool.not_false,cond_true,cond_false]) ?_
            exact hk
           ·have b123:((iand .u64 ev 7)==2)=false:=beq_eq_false_iff_ne.mpr c122
            refine N_env [(5,.pointer (some d)),(7,.pointer (some (ad b))),(15,.int .i64 n),(17,.int .u64 ev),(18,.int .u64 q),(134,.pointer (some (ad p))),(191,.bool false)] (by simp only[b123,Bool.not_true,Bool.not_false]) ?_
            refine N_run 5 [(5,.pointer (some d)),(7,.pointer (some (ad b))),(15,.int .i64 n),(17,.int .u64 ev),(18,.int .u64 q),(22,.bool ((iand .u64 ev 7)==3)),(134,.pointer (some (ad p)))] (λ_=>by kernel_rfl) ?_
            refine N_end (by kernel_rfl) ?_
            refine S_env [(5,.pointer (some d)),(7,.pointer (some (ad b))),(15,.int .i64 n),(17,.int .u64 ev),(18,.int .u64 q),(22,.bool ((((iand .u64 ev 7)==1) || ((iand .u64 ev 7)==2)) || ((iand .u64 ev 7)==3))),(134,.pointer (some (ad p)))] (by simp only[b121,b123,Bool.true_or,Bool.false_or,Bool.or_true,Bool.or_false,Bool.true_and,Bool.false_and,Bool.and_true,Bool.and_false,Bool.not_true,Bool.not_false,cond_true,cond_false]) ?_
            exact hk
       ·intro hk
        refine N_sub [(5,.pointer (some d)),(7,.pointer (some (ad b))),(15,.int .i64 n),(17,.int .u64 ev),(18,.int .u64 q),(134,.pointer (some (ad p))),(173,.bool false),(178,.bool (decide (am<=a7)))] (sb (by kernel_rfl)) ?_
        by_cases c116:am<=a7
        ·have b117:(decide (am<=a7))=true:=decide_eq_true c116
         refine N_env [(5,.pointer (some d)),(7,.pointer (some (ad b))),(15,.int .i64 n),(17,.int .u64 ev),(18,.int .u64 q),(134,.pointer (some (ad p))),(173,.bool false),(178,.bool true)] (by simp only[b117,Bool.not_true,Bool.not_false]) ?_
         refine N_run 4 [(5,.pointer (some d)),(7,.pointer (some (ad b))),(15,.int .i64 n),(17,.int .u64 ev),(18,.int .u64 q),(134,.pointer (some (ad p))),(182,.bool (n==0))] (λ_=>by kernel_rfl) ?_
         refine N_end (by kernel_rfl) ?_
         refine S_env [(5,.pointer (some d)),(7,.pointer (some (ad b))),(15,.int .i64 n),(17,.int .u64 ev),(18,.int .u64 q),(134,.pointer (some (ad p))),(182,.bool ((decide (am<=a7)) && (n==0)))] (by simp only[b117,Bool.true_or,Bool.false_or,Bool.or_true,Bool.or_false,Bool.true_and,Bool.false_and,Bool.and_true,Bool.and_false,Bool.not_true,Bool.not_false,cond_true,cond_false]) ?_
         exact hk
        ·have b117:(decide (am<=a7))=false:=decide_eq_false c116
         refine N_env [(5,.pointer (some d)),(7,.pointer (some (ad b))),(15,.int .i64 n),(17,.int .u64 ev),(18,.int .u64 q),(134,.pointer (some (ad p))),(173,.bool false),(178,.bool false)] (by simp only[b117,Bool.not_true,Bool.not_false]) ?_
         refine N_run 4 [(5,.pointer (some d)),(7,.pointer (some (ad b))),(15,.int .i64 n),(17,.int .u64 ev),(18,.int .u64 q),(134,.pointer (some (ad p))),(182,.bool false)] (λ_=>by kernel_rfl) ?_
         refine N_end (by kernel_rfl) ?_
         refine S_env [(5,.pointer (some d)),(7,.pointer (some (ad b))),(15,.int .i64 n),(17,.int .u64 ev),(18,.int .u64 q),(134,.pointer (some (ad p))),(182,.bool ((decide (am<=a7)) && (n==0)))] (by simp only[b117,Bool.true_or,Bool.false_or,Bool.or_true,Bool.or_false,Bool.true_and,Bool.false_and,Bool.and_true,Bool.and_false,Bool.not_true,Bool.not_false,cond_true,cond_false]) ?_
         exact hk
      ·rw[if_neg c113]at h
       have b114:(!bs)=true:=congrArg Bool.not (eq_false_of_ne_true c113)
       have b1142:bs=false:=eq_false_of_ne_true c113
       refine N_env [(5,.pointer (some d)),(7,.pointer (some (ad b))),(15,.int .i64 n),(17,.int .u64 ev),(18,.int .u64 q),(20,.int .i64 am),(134,.pointer (some (ad p))),(173,.bool true)] (by simp only[b114,b1142,Bool.not_true,Bool.not_false]) ?_
       clear b114 b1142
       refine N_run 9 [(5,.pointer (some d)),(7,.pointer (some (ad b))),(15,.int .i64 n),(17,.int .u64 ev),(18,.int .u64 q),(134,.pointer (some (ad p))),(182,.bool true)] (λ_=>by kernel_rfl) ?_
       refine T_e ?_
       refine S_condT (.tmp 182) kk76 kk77 (by kernel_rfl) (by kernel_rfl) ?_
       refine T_sr 23 kk78 kk79 ?_
       refine N_run 1 [(4,.bool false)] (λ_=>by kernel_rfl) ?_
       refine T_e ?_
       refine S_ret (by kernel_rfl) ?_
       show At _ _ _ _ _ (Q .ret)
       exact S_done (fn:=Tryz.f7) [.bool false] hQ (show ResOK _ _ _ [.tmp 4] _ from .tmp (by kernel_rfl) (.nil)) h
     ·rw[if_neg c111]at h
      have b112:(bo !=0)=true:=bne_iff_ne.mpr c111
      refine N_env [(5,.pointer (some d)),(7,.pointer (some (ad b))),(15,.int .i64 n),(17,.int .u64 ev),(18,.int .u64 q),(20,.int .i64 am),(21,.bool bs),(134,.pointer (some (ad p))),(169,.bool true)] (by simp only[b112,Bool.not_true,Bool.not_false]) ?_
      clear b112
      refine N_run 13 [(5,.pointer (some d)),(7,.pointer (some (ad b))),(15,.int .i64 n),(17,.int .u64 ev),(18,.int .u64 q),(134,.pointer (some (ad p))),(182,.bool true)] (λ_=>by kernel_rfl) ?_
      refine T_e ?_
      refine S_condT (.tmp 182) kk76 kk77 (by kernel_rfl) (by kernel_rfl) ?_
      refine T_sr 23 kk78 kk79 ?_
      refine N_run 1 [(4,.bool false)] (λ_=>by kernel_rfl) ?_
      refine T_e ?_
      refine S_ret (by kernel_rfl) ?_
      show At _ _ _ _ _ (Q .ret)
      exact S_done (fn:=Tryz.f7) [.bool false] hQ (show ResOK _ _ _ [.tmp 4] _ from .tmp (by kernel_rfl) (.nil)) h
    ·have h:=h97
     refine⟨[(5,.pointer (some d)),(7,.pointer (some (ad b))),(15,.int .i64 n),(134,.pointer (some (ad p))),(135,.tuple #[.bool false])],ps (by kernel_rfl),?_⟩
     refine N_run 1 [(5,.pointer (some d)),(7,.pointer (some (ad b))),(15,.int .i64 n),(134,.pointer (some (ad p))),(136,.bool false)] (λ_=>by kernel_rfl) ?_
     refine T_e ?_
     refine S_seq kk61 kk62 (by kernel_rfl) ?_
     refine S_condF (.tmp 136) kk63 kk64 (by kernel_rfl) (by kernel_rfl) ?_
     refine S_exit 4 (by kernel_rfl) ?_
     refine S_exitThen ?_
     refine S_exitThen ?_
     refine S_exitHere ?_
     refine S_then ?_
     refine T_sr 27 kk88 kk89 ?_
     refine N_sub [] (sb (by kernel_rfl)) ?_
     refine N_call (some 203) 14 #[] (λ_=>by kernel_rfl) h ?_;clear h
     rintro dy d4 ⟨cm,rfl,h⟩
     refine⟨[(203,.bool cm)],ps (by kernel_rfl),?_⟩
     refine N_run 1 [(4,.bool cm)] (λ_=>by kernel_rfl) ?_
     refine T_e ?_
     refine S_ret (by kernel_rfl) ?_
     show At _ _ _ _ _ (Q .ret)
     exact S_done (fn:=Tryz.f7) [.bool cm] hQ (show ResOK _ _ _ [.tmp 4] _ from .tmp (by kernel_rfl) (.nil)) h
end morainelaw13_GcOlder

end Go.Proofs.YtgnokbjknicahaaGreat
