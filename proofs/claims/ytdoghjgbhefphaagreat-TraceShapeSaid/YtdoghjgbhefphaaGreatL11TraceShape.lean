/- Printed: what each function asks, and that it is sound. -/
import Derived.Test.YtdoghjgbhefphaaGreatFnsC
set_option linter.unusedSimpArgs false
set_option linter.unusedVariables false
set_option maxRecDepth 100000
set_option maxHeartbeats 1000000
noncomputable section
namespace Go.Proofs.YtdoghjgbhefphaaGreat
open Go
/-! moraine/morainelaw11.TraceShape -/
namespace morainelaw11_TraceShape
def K0:=Func.code Tryz.f5
def K2:=cb K0
def K4:=cb K2
def K6:=cb K4
def K14:=cb K6
def K22:=cb K14
def K23:=ca K22
def K26:=cb K23
def K27:=ca K26
def K28:=ca K27
def K30:=cb K28
def K35:=ca K30
def K37:=ca K35
def K39:=cb K37
def K40:=ca K39
def K41:=cb K39
def K43:=cb K40
def K44:=ca K43
def K45:=ca K44
def K56:=cb K41
def K57:=ca K56
def K58:=cb K56
def K60:=cb K57
def K61:=ca K60
def K62:=ca K61
def K64:=cb K62
def K69:=ca K64
def K71:=ca K69
def K72:=ca K71
def K79:=cb K58
def K81:=cb K79
def K83:=cb K81
def K84:=ca K83
def K85:=cb K83
def K87:=cb K84
def K88:=ca K87
def K91:=cb K85
def K92:=ca K91
def K93:=cb K91
def K95:=cb K92
def K96:=ca K95
def K97:=ca K96
def K107:=ca K93
def K108:=cb K93
def K110:=cb K107
def K111:=ca K110
def K112:=ca K111
def K123:=cb K108
def K125:=cb K123
def K127:=cb K125
def K128:=ca K127
def K129:=cb K127
def K131:=cb K128
def K132:=ca K131
def K133:=ca K132
def K135:=cb K133
def K140:=ca K135
def K142:=ca K140
def K143:=ca K142
def K144:=cb K142
def K146:=cb K144
def K147:=ca K146
def K150:=cb K129
def K152:=cb K150
def K154:=cb K152
def K160:=cb K154
def K161:=ca K160
def K162:=ca K161
def K180:=ca K88
def K182:=ca K180
end morainelaw11_TraceShape
def morainelaw11_TraceShape.pt(bc:Int)(lB:Option Addr)(lN lC:Nat)(H:Array Obj)(R:Value->Array Obj->Prop):Prop:=
 obj_New.C bc H (λv H1=> ∃(ra:Option Addr) (rb:Int),v=.tuple #[.pointer ra,.int .i64 rb]/\
 ∃J:Bool->Array Obj->Prop,(
 if rb=0 then(
 onPtr ra (
 J true H1) (λeb=>
 J false H1))
 else
 J false H1)/\ ∀(cx:Bool) (H2:Array Obj),J cx H2->
 if cx=true then(
 R (.bool false) H2)
 else
 morainelaw11_many.C lB lN lC H2 (λe9 H3=> ∃x:Bool,e9=.bool x/\
 if(x || (rb !=0))=true then(
 ∃dr:Bool->Array Obj->Prop,(
 if rb=0 then(
 morainelaw11_awake.C H3 (λe8 H5=> ∃dt:Bool,e8=.bool dt/\
 dr dt H5))
 else
 if rb=1 then(
 morainelaw11_awake.C H3 (λfd H6=> ∃dk:Bool,fd=.bool dk/\
 dr dk H6))
 else
 dr false H3)/\ ∀(s4:Bool) (H4:Array Obj),dr s4 H4->
 R (.bool s4) H4)
 else
 ∃(dn:(Option Addr)->Nat->Nat->Int->Array Obj->Prop) (m29:(Option Addr)->Nat->Nat->Int->Array Obj->Nat),dn none 0 0 0 H3/\ ∀(al:Option Addr) (madeN:Nat) (madeC:Nat) (i:Int) (H7:Array Obj),dn al madeN madeC i H7->
 if i< (lN:Int)then(
 ∃d:Addr,lB=some d/\
 ((0:Int)<=i/\i< (lN:Int))/\
 ∃(a3:Option Addr) (a1 a5:Nat) (xG au a8:Int),RowAt H7 (d.add (Int.toNat i*4)) 0 [.slice a3 a1 a5,.int .i64 xG,.int .i64 au,.int .u32 a8]/\
 ∀(b:Nat) (H8:Array Obj),b=H7.size->H8=H7.push (.cells #[.slice none 0 0,.int .i64 0,.int .i64 0,.int .u32 0] 93)->
 (CanPuts H8 (ad b) 0 4)/\ ∀H9,H9=hputs H8 (ad b) [.slice a3 a1 a5,.int .i64 xG,.int .i64 au,.int .u32 a8] 0->
 ∃(dv:(Option Addr)->Nat->Nat->Int->Array Obj->Prop) (m46:(Option Addr)->Nat->Nat->Int->Array Obj->Nat),dv al madeN madeC 0 H9/\ ∀(f:Option Addr) (madeN_2:Nat) (madeC_2:Nat) (k:Int) (H10:Array Obj),dv f madeN_2 madeC_2 k H10->
 ∃(xB:Option Addr) (xN xC:Nat),hat H10 (ad b)=some (.slice xB xN xC)/\
 if k< (xN:Int)then(
 ∃(co:Option Addr) (bw b2:Nat),hat H10 (ad b)=some (.slice co bw b2)/\
 ∃bx:Addr,co=some bx/\
 ((0:Int)<=k/\k< (bw:Int))/\
 ∃(dd bj b6 cz cd c1 b3:Int) (c2:Option Addr) (dc df:Nat),RowAt H10 (bx.add (Int.toNat k*8)) 0 [.int .i64 dd,.int .i64 bj,.int .i64 b6,.int .u64 cz,.int .i64 cd,.int .u64 c1,.int .i64 b3,.slice c2 dc df]/\
 morainelaw11_Made.C ra dd bj b6 cz cd c1 b3 c2 dc df f madeN_2 madeC_2 H10 (λe4 eo=> ∃(b0:Option Addr) (bt bq:Nat),e4=.slice b0 bt bq/\
 (dv b0 bt bq (IntKind.wrap .i64 (k+1)) eo/\m46 b0 bt bq (IntKind.wrap .i64 (k+1)) eo<m46 f madeN_2 madeC_2 k H10)))
 else
 ∃(cw:(Option Addr)->Nat->Nat->Int->Array Obj->Prop) (m63:(Option Addr)->Nat->Nat->Int->Array Obj->Nat),cw none 0 0 0 H10/\ ∀(l:Option Addr) (rootsN:Nat) (rootsC:Nat) (k_2:Int) (H12:Array Obj),cw l rootsN rootsC k_2 H12->
 if k_2< (madeN_2:Int)then(
 ∃af:Addr,ra=some af/\
 ∃bn:Option Addr,hat H12 af=some (.pointer bn)/\
 ∃n:Addr,f=some n/\
 ((0:Int)<=k_2/\k_2< (madeN_2:Int))/\
 ∃c5:Int,hat H12 (n.add (Int.toNat k_2*1))=some (.int .u64 c5)/\
 card_Cards_Gen.C bn c5 H12 (λfc ei=> ∃(ai:Int) (ak:Bool),fc=.tuple #[.int .i64 ai,.bool ak]/\
 ∃da:Int,hat ei ((ad b).add 3)=some (.int .u32 da)/\
 morainelaw11_kept.C da k_2 ei (λe6 bk=> ∃cu:Bool,e6=.bool cu/\
 if cu=true then(
 ((0:Int)<=k_2/\k_2< (madeN_2:Int))/\
 ∃di:Int,hat bk (n.add (Int.toNat k_2*1))=some (.int .u64 di)/\
 ∀(dq:Nat) (H15:Array Obj),dq=bk.size->H15=bk.push (.cells #[.int .u64 di] 36)->
 appendK 1 36 8 [.int .u64 0] l rootsN rootsC (some (ad dq)) 1 H15 (λap de er=>
 (cw ap (rootsN+1) de (IntKind.wrap .i64 (k_2+1)) er/\m63 ap (rootsN+1) de (IntKind.wrap .i64 (k_2+1)) er<m63 l rootsN rootsC k_2 H12)))
 else
 if ak=true then(
 ∃ch:Int,hat bk ((ad b).add 1)=some (.int .i64 ch)/\
 if ai>ch then(
 ((0:Int)<=k_2/\k_2< (madeN_2:Int))/\
 ∃ci:Int,hat bk (n.add (Int.toNat k_2*1))=some (.int .u64 ci)/\
 ∀(dl:Nat) (H17:Array Obj),dl=bk.size->H17=bk.push (.cells #[.int .u64 ci] 36)->
 appendK 1 36 8 [.int .u64 0] l rootsN rootsC (some (ad dl)) 1 H17 (λb4 be ek=>
 (cw b4 (rootsN+1) be (IntKind.wrap .i64 (k_2+1)) ek/\m63 b4 (rootsN+1) be (IntKind.wrap .i64 (k_2+1)) ek<m63 l rootsN rootsC k_2 H12)))
 else
 (cw l rootsN rootsC (IntKind.wrap .i64 (k_2+1)) bk/\m63 l rootsN rootsC (IntKind.wrap .i64 (k_2+1)) bk<m63 l rootsN rootsC k_2 H12))
 else
 (cw l rootsN rootsC (IntKind.wrap .i64 (k_2+1)) bk/\m63 l rootsN rootsC (IntKind.wrap .i64 (k_2+1)) bk<m63 l rootsN rootsC k_2 H12))))
 else
 morainelaw11_picture.C ra l rootsN rootsC H12 (λfk ex=> ∃(r:Option Addr) (s q:Nat),fk=.slice r s q/\
 ∃ct:Int,hat ex ((ad b).add 1)=some (.int .i64 ct)/\
 morainelaw11_reached.C ra l rootsN rootsC ct ex (λfe ea=> ∃o:Int,fe=.int .i64 o/\
 ∃bl:Int,hat ea ((ad b).add 1)=some (.int .i64 bl)/\
 ∃cp:Int,hat ea ((ad b).add 2)=some (.int .i64 cp)/\
 trace_Start.C ra bl cp 0 ea (λew bz=> ∃(p:Option Addr) (ah:Int),ew=.tuple #[.pointer p,.int .i64 ah]/\
 if ah=0 then(
 ∃b8:Int,hat bz ((ad b).add 1)=some (.int .i64 b8)/\
 ∃(dw:Int->Int->Array Obj->Prop) (m98:Int->Int->Array Obj->Nat),dw 0 (IntKind.wrap .i64 (b8+1)) bz/\ ∀(m:Int) (g:Int) (H22:Array Obj),dw m g H22->
 if g<=4 then(
 ∃ao:Addr,ra=some ao/\
 ∃c9:Option Addr,hat H22 ao=some (.pointer c9)/\
 ∃c7:Addr,c9=some c7/\
 ∃bm:Option Addr,hat H22 c7=some (.pointer bm)/\
 ∀(dm:Nat) (H23:Array Obj),dm=H22.size->H23=H22.push (.cells #[.int .i64 g] 3)->
 space_Space_Words.C bm (some (ad dm)) 1 1 H23 (λef et=> ∃bo:Int,ef=.int .i64 bo/\
 (dw (IntKind.wrap .i64 (m+bo)) (IntKind.wrap .i64 (g+1)) et/\m98 (IntKind.wrap .i64 (m+bo)) (IntKind.wrap .i64 (g+1)) et<m98 m g H22)))
 else
 ∃(c0:(Option Addr)->Nat->Nat->Int->Array Obj->Prop) (m113:(Option Addr)->Nat->Nat->Int->Array Obj->Nat),c0 none 0 0 0 H22/\ ∀(j:Option Addr) (youngN:Nat) (youngC:Nat) (k_3:Int) (H25:Array Obj),c0 j youngN youngC k_3 H25->
 if k_3< (rootsN:Int)then(
 ∃aj:Addr,l=some aj/\
 ((0:Int)<=k_3/\k_3< (rootsN:Int))/\
 ∃ck:Int,hat H25 (aj.add (Int.toNat k_3*1))=some (.int .u64 ck)/\
 trace_Trace_Visit.C p ck H25 (λe1 ep=> ∃c3:Int,e1=.int .u64 c3/\
 ∀(dj:Nat) (H27:Array Obj),dj=ep.size->H27=ep.push (.cells #[.int .u64 c3] 36)->
 appendK 1 36 8 [.int .u64 0] j youngN youngC (some (ad dj)) 1 H27 (λcc bh ev=>
 (c0 cc (youngN+1) bh (IntKind.wrap .i64 (k_3+1)) ev/\m113 cc (youngN+1) bh (IntKind.wrap .i64 (k_3+1)) ev<m113 j youngN youngC k_3 H25))))
 else
 trace_Trace_Cards.C p H25 (λ_ e7=>
 trace_Trace_Drain.C p e7 (λ_ fi=>
 trace_Trace_Weaks.C p fi (λe0 ff=> ∃(ba:Option Addr) (z ac:Nat),e0=.slice ba z ac/\
 ∃(cq:Int->Array Obj->Prop) (m134:Int->Array Obj->Nat),cq 0 ff/\ ∀(ab:Int) (H32:Array Obj),cq ab H32->
 if ab< (z:Int)then(
 ∃u:Addr,ra=some u/\
 ∃d4:Option Addr,hat H32 u=some (.pointer d4)/\
 ∃a2:Addr,d4=some a2/\
 ∃d0:Option Addr,hat H32 a2=some (.pointer d0)/\
 ∃ay:Addr,d0=some ay/\
 ∃bb:Option Addr,hat H32 ay=some (.pointer bb)/\
 ∃aa:Addr,ba=some aa/\
 ((0:Int)<=ab/\ab< (z:Int))/\
 ∃ce:Int,hat H32 (aa.add (Int.toNat ab*1))=some (.int .i64 ce)/\
 seg_Mem_Read.C bb ce H32 (λeg fj=> ∃an a7:Int,eg=.tuple #[.int .u64 an,.int .i64 a7]/\
 trace_Trace_Old.C p an fj (λes cv=> ∃cg:Bool,es=.bool cg/\
 if cg=true then(
 ∃d5:Option Addr,hat cv u=some (.pointer d5)/\
 ∃a6:Addr,d5=some a6/\
 ∃d7:Option Addr,hat cv a6=some (.pointer d7)/\
 ∃a4:Addr,d7=some a4/\
 ∃a9:Option Addr,hat cv a4=some (.pointer a9)/\
 ((0:Int)<=ab/\ab< (z:Int))/\
 ∃b1:Int,hat cv (aa.add (Int.toNat ab*1))=some (.int .i64 b1)/\
 seg_Mem_Write.C a9 b1 44 cv (λey el=> ∃em:Int,ey=.int .i64 em/\
 (cq (IntKind.wrap .i64 (ab+1)) el/\m134 (IntKind.wrap .i64 (ab+1)) el<m134 ab H32)))
 else
 (cq (IntKind.wrap .i64 (ab+1)) cv/\m134 (IntKind.wrap .i64 (ab+1)) cv<m134 ab H32))))
 else
 trace_Trace_End.C p H32 (λ_ fh=>
 morainelaw11_picture.C ra j youngN youngC fh (λej e5=> ∃(cj:Option Addr) (cl cs:Nat),ej=.slice cj cl cs/\
 morainelaw11_alike.C cj cl cs r s q e5 (λe2 du=> ∃bd:Bool,e2=.bool bd/\
 if bd=true then(
 ∃ae:Addr,ra=some ae/\
 ∃dg:Option Addr,hat du ae=some (.pointer dg)/\
 ∃cy:Addr,dg=some cy/\
 ∃cr:Option Addr,hat du cy=some (.pointer cr)/\
 space_Space_Words.C cr none 0 0 du (λee en=> ∃bp:Int,ee=.int .i64 bp/\
 if bp=(IntKind.wrap .i64 (m+o))then(
 ∃(cm:Int->Array Obj->Prop) (m163:Int->Array Obj->Nat),cm 0 en/\ ∀(ag:Int) (H40:Array Obj),cm ag H40->
 ∃bf:Int,hat H40 ((ad b).add 1)=some (.int .i64 bf)/\
 if ag<=bf then(
 ∃bi:Int,hat H40 ((ad b).add 2)=some (.int .i64 bi)/\
 if ag=bi then(
 (cm (IntKind.wrap .i64 (ag+1)) H40/\m163 (IntKind.wrap .i64 (ag+1)) H40<m163 ag H40))
 else
 ∃db:Option Addr,hat H40 ae=some (.pointer db)/\
 ∃dh:Addr,db=some dh/\
 ∃bu:Option Addr,hat H40 dh=some (.pointer bu)/\
 ∀(dp:Nat) (H41:Array Obj),dp=H40.size->H41=H40.push (.cells #[.int .i64 ag] 3)->
 space_Space_Words.C bu (some (ad dp)) 1 1 H41 (λec d9=> ∃br:Int,ec=.int .i64 br/\
 if br=0 then(
 (cm (IntKind.wrap .i64 (ag+1)) d9/\m163 (IntKind.wrap .i64 (ag+1)) d9<m163 ag H40))
 else
 R (.bool false) d9))
 else
 (dn j youngN youngC (IntKind.wrap .i64 (i+1)) H40/\m29 j youngN youngC (IntKind.wrap .i64 (i+1)) H40<m29 al madeN madeC i H7))
 else
 R (.bool false) en))
 else
 R (.bool false) du)))))))
 else
 ∃dy:Bool->Array Obj->Prop,(
 if ah=2 then(
 ∃y:Addr,ra=some y/\
 ∃d3:Option Addr,hat bz y=some (.pointer d3)/\
 ∃az:Addr,d3=some az/\
 ∃dz:Option Addr,hat bz az=some (.pointer dz)/\
 ∃a0:Addr,dz=some a0/\
 ∃aq:Option Addr,hat bz a0=some (.pointer aq)/\
 ∃d2:Option Addr,hat bz y=some (.pointer d2)/\
 ∃av:Addr,d2=some av/\
 ∃d8:Option Addr,hat bz av=some (.pointer d8)/\
 ∃aw:Addr,d8=some aw/\
 ∃bg:Option Addr,hat bz aw=some (.pointer bg)/\
 seg_Mem_Free.C aq bz (λez dx=> ∃ax:Int,ez=.int .i64 ax/\RowAt dx y 0 [.pointer (some av)]/\RowAt dx av 0 [.pointer (some aw)]/\RowAt dx aw 0 [.pointer bg]/\
 seg_Mem_Taken.C bg none 0 0 dx (λeh e3=> ∃(d1:Option Addr) (am d6:Nat),eh=.slice d1 am d6/\
 dy (decide (ax>=(IntKind.wrap .i64 ((IntKind.wrap .i64 (2*(am:Int)))+8)))) e3)))
 else
 dy false bz)/\ ∀(bs:Bool) (H43:Array Obj),dy bs H43->
 if bs=true then(
 R (.bool false) H43)
 else
 (dn f madeN_2 madeC_2 (IntKind.wrap .i64 (i+1)) H43/\m29 f madeN_2 madeC_2 (IntKind.wrap .i64 (i+1)) H43<m29 al madeN madeC i H7)))))
 else
 morainelaw11_awake.C H7 (λeu fg=> ∃cn:Bool,eu=.bool cn/\
 R (.bool cn) fg)))
namespace morainelaw11_TraceShape
theorem link{bc:Int}{lB:Option Addr}{lN lC:Nat}{H:Array Obj}{R:Value->Array Obj->Prop}(h:pt bc lB lN lC H R):C bc lB lN lC H R:=by
 refine T_en K0 295 Tryz.func5 ?_
 intro w0 Q hQ
 unfold pt at h
 refine T_su [(0,vi bc),(1,vs lB lN lC)]<| T_srz 0<| T_ed 1 [] []<| T_srz 1<| T_nd 1 [0] [(29,vi bc)] ?_
 refine T_c (some 30) h ?_;clear h
 rintro v H1 ⟨ra,rb,rfl,h⟩
 refine T_pd [29] [(30,.tuple #[vp ra,vi rb])]<| T_ne 5 [(1,vs lB lN lC),(5,vp ra),(6,vi rb)]<| T_sz<| T_sz ?_
 obtain⟨J,h,j2⟩:=h
 refine S_join (σ:=Bool) (λs_=> [(1,vs lB lN lC),(5,vp ra),(6,vi rb),(38,.bool s_)]) (λs_ H=>J s_ H) ?_ ?_
 ·rintro cx H2 j3
  replace h:=j2 cx H2 j3
  refine T_su [(1,vs lB lN lC),(5,vp ra),(6,vi rb),(38,.bool cx)] ?_
  refine S_then ?_
  by_cases c4:cx=true
  ·rw[if_pos c4]at h
   have b5:cx=true:=c4
   refine S_env [(1,vs lB lN lC),(5,vp ra),(6,vi rb),(38,.bool true)] (by rw[b5]) ?_
   clear b5
   exact T_tz 38<| T_srz 3<| T_nr 1 [4] [.bool false] hQ h
  rw[if_neg c4]at h
  have b5:cx=false:=eq_false_of_ne_true c4
  refine S_env [(1,vs lB lN lC),(5,vp ra),(6,vi rb),(38,.bool false)] (by rw[b5]) ?_
  clear b5
  refine T_fz 38<| T_kt<| T_sz<| T_srz 4<| T_nd 1 [38] [(39,vs lB lN lC)] ?_
  refine T_c (some 40) h ?_;clear h
  rintro e9 H3 ⟨x,rfl,h⟩
  refine T_pd [39] [(40,.bool x)]<| T_nd 1 [40] [(41,.bool x)] ?_
  refine N_cut [(1,vs lB lN lC),(5,vp ra),(6,vi rb),(44,.bool (x || (rb !=0)))] ?_ ?_
  ·refine S_then ?_
   by_cases c8:(x || (rb !=0))=true
   ·rw[if_pos c8]at h
    refine T_cTz 44 c8<| T_sz ?_
    obtain⟨dr,h,j11⟩:=h
    refine S_join (σ:=Bool) (λs_=> [(4,.bool s_)]) (λs_ H=>dr s_ H) ?_ ?_
    ·rintro s4 H4 j12
     replace h:=j11 s4 H4 j12
     refine T_su [(4,.bool s4)] ?_
     refine S_then ?_
     exact T_ret [4] [.bool s4] hQ h
    refine T_rz 5<| T_n 3 [(6,vi rb),(47,.bool (rb==0))] ?_
    by_cases c13:rb=0
    ·rw[if_pos c13]at h
     have b14:(rb==0)=true:=beq_iff_eq.mpr c13
     refine N_env [(6,vi rb),(47,.bool true)] (by rw[b14]) ?_
     clear b14
     refine T_n 4 [(51,.bool true)] ?_
     refine T_c (some 52) h ?_;clear h
     rintro e8 H5 ⟨dt,rfl,h⟩
     refine T_pd [] [(52,.bool dt)]<| T_ne 2 [(4,.bool dt)] ?_
     exact S_meet (dt:Bool) sk h
    rw[if_neg c13]at h
    have b14:(rb==0)=false:=beq_eq_false_iff_ne.mpr c13
    refine N_env [(6,vi rb),(47,.bool false)] (by rw[b14]) ?_
    clear b14
    refine T_n 4 [(51,.bool (rb==1))] ?_
    by_cases c15:rb=1
    ·rw[if_pos c15]at h
     have b16:(rb==1)=true:=beq_iff_eq.mpr c15
     refine N_env [(51,.bool true)] (by rw[b16]) ?_
     clear b16
     refine T_c (some 52) h ?_;clear h
     rintro fd H6 ⟨dk,rfl,h⟩
     refine T_pd [] [(52,.bool dk)]<| T_ne 2 [(4,.bool dk)] ?_
     exact S_meet (dk:Bool) sk h
    rw[if_neg c15]at h
    have b16:(rb==1)=false:=beq_eq_false_iff_ne.mpr c15
    refine N_env [(51,.bool false)] (by rw[b16]) ?_
    clear b16
    refine T_ne 3 [(4,.bool false)] ?_
    exact S_meet (false:Bool) sk h
   rw[if_neg c8]at h
   refine T_cFz 44 (eq_false_of_ne_true c8)<| T_kt<| T_srz 6<| T_ne 1 [(1,vs lB lN lC),(5,vp ra),(7,vs none 0 0)]<| T_sz<| T_srz 7<| T_ed 1 [] [(8,vi 0)]<| T_bz 0 ?_
   obtain⟨dn,m29,i17,i18⟩:=h
   refine S_loop (x:=K28) (σ:=(Option Addr)×Nat×Nat×Int) (λs_=> [(1,vs lB lN lC),(5,vp ra),(7,vs s_.1 s_.2.1 s_.2.2.1),(8,vi s_.2.2.2)]) (λs_ H=>dn s_.1 s_.2.1 s_.2.2.1 s_.2.2.2 H) (λs_ H=>m29 s_.1 s_.2.1 s_.2.2.1 s_.2.2.2 H) ((none,0,0,0):(Option Addr)×Nat×Nat×Int) (by kernel_rfl) i17 sk ?_
   rintro⟨al,madeN,madeC,i⟩ H7 i19
   have h:=i18 al madeN madeC i H7 i19
   refine T_su [(1,vs lB lN lC),(5,vp ra),(7,vs al madeN madeC),(8,vi i)]<| T_sz<| T_srz 8<| T_ed 4 [] [(57,.bool (decide (i< (lN:Int))))] ?_
   by_cases c20:i< (lN:Int)
   ·rw[if_pos c20]at h
    refine T_cTz 57 (decide_eq_true c20)<| T_kt<| T_sz<| T_bz 1<| T_srz 10<| T_nd 2 [57] [(60,vs lB lN lC),(61,vi i)] ?_
    obtain⟨d,rfl,h⟩:=h
    obtain⟨q22,h⟩:=h
    refine T_xd (some 62) 88 93 4 d lN lC .i64 i Tryz.underlying88 q22.1 q22.2 [1,60,61] [(1,vs (some d) lN lC),(62,vp (some (d.add (Int.toNat i*4))))] ?_
    obtain⟨a3,a1,a5,xG,au,a8,q23,h⟩:=h
    refine T_lr 63 93 q23 [62]<| T_nw (some 9) (λb=>vp (pa b)) (.cells #[vs none 0 0,vi 0,vi 0,.int .u32 0] 93) ?_
    intro b H8 e24 e25
    replace h:=h b H8 e24 e25
    refine T_pd [] [(9,vp (pa b))] ?_
    obtain⟨q27,h⟩:=h
    refine T_sta 93 [vs a3 a1 a5,vi xG,vi au,.int .u32 a8] q27 ?_
    intro H9 e26
    replace h:=h H9 e26
    refine T_pd [63] []<| T_e<| T_sz<| T_srz 11<| T_ed 1 [] [(10,vi 0)]<| T_bz 2 ?_
    obtain⟨dv,m46,i28,i29⟩:=h
    refine S_loop (x:=K45) (σ:=(Option Addr)×Nat×Nat×Int) (λs_=> [(1,vs (some d) lN lC),(5,vp ra),(7,vs s_.1 s_.2.1 s_.2.2.1),(8,vi i),(9,vp (pa b)),(10,vi s_.2.2.2)]) (λs_ H=>dv s_.1 s_.2.1 s_.2.2.1 s_.2.2.2 H) (λs_ H=>m46 s_.1 s_.2.1 s_.2.2.1 s_.2.2.2 H) ((al,madeN,madeC,0):(Option Addr)×Nat×Nat×Int) (by kernel_rfl) i28 sk ?_
    rintro⟨f,madeN_2,madeC_2,k⟩ H10 i30
    have h:=i29 f madeN_2 madeC_2 k H10 i30
    refine T_su [(1,vs (some d) lN lC),(5,vp ra),(7,vs f madeN_2 madeC_2),(8,vi i),(9,vp (pa b)),(10,vi k)]<| T_sz<| T_srz 12<| T_nd 2 [] [(64,vi k),(65,vp (pa b))] ?_
    obtain⟨xB,xN,xC,q31,h⟩:=h
    refine T_l1 66 90 q31 [65]<| T_ed 2 [64,66] [(68,.bool (decide (k< (xN:Int))))] ?_
    by_cases c32:k< (xN:Int)
    ·rw[if_pos c32]at h
     refine T_cTz 68 (decide_eq_true c32)<| T_kt<| T_sz<| T_bz 3<| T_rz 14<| T_nd 2 [68] [(71,vp ra),(72,vp (pa b))] ?_
     obtain⟨co,bw,b2,q34,h⟩:=h
     refine T_l1 73 90 q34 [72]<| T_nd 1 [] [(74,vi k)] ?_
     obtain⟨bx,rfl,h⟩:=h
     obtain⟨q35,h⟩:=h
     refine T_xd (some 75) 90 98 8 bx bw b2 .i64 k Tryz.underlying90 q35.1 q35.2 [73,74] [(75,vp (some (bx.add (Int.toNat k*8))))] ?_
     obtain⟨dd,bj,b6,cz,cd,c1,b3,c2,dc,df,q36,h⟩:=h
     refine T_lr 76 98 q36 [75]<| T_nd 1 [7] [(77,vs f madeN_2 madeC_2)] ?_
     refine T_c (some 78) h ?_;clear h
     rintro e4 eo ⟨b0,bt,bq,rfl,h⟩
     refine T_pd [71,76,77] [(78,vs b0 bt bq)]<| T_nd 1 [78] [(7,vs b0 bt bq)] ?_
     refine N_end (by kernel_rfl) ?_
     refine S_blockEnd ?_
     refine S_then ?_
     refine T_rz 13<| T_ed 3 [10] [(10,vi (IntKind.wrap .i64 (k+1)))] ?_
     exact S_round ((b0,bt,bq,(IntKind.wrap .i64 (k+1))):(Option Addr)×Nat×Nat×Int) sk h
    rw[if_neg c32]at h
    refine T_cFz 68 (decide_eq_false c32) ?_
    refine S_exit 2 (by kernel_rfl) ?_
    refine S_exitThen ?_
    refine S_exitThen ?_
    refine S_exitHere ?_
    refine S_then ?_
    refine T_srz 15<| T_ed 2 [10,68] [(11,vs none 0 0),(12,vs none 0 0)]<| T_sz<| T_srz 16<| T_ed 1 [] [(13,vi 0)]<| T_bz 4 ?_
    obtain⟨cw,m63,i37,i38⟩:=h
    refine S_loop (x:=K62) (σ:=(Option Addr)×Nat×Nat×Int) (λs_=> [(1,vs (some d) lN lC),(5,vp ra),(7,vs f madeN_2 madeC_2),(8,vi i),(9,vp (pa b)),(11,vs s_.1 s_.2.1 s_.2.2.1),(12,vs none 0 0),(13,vi s_.2.2.2)]) (λs_ H=>cw s_.1 s_.2.1 s_.2.2.1 s_.2.2.2 H) (λs_ H=>m63 s_.1 s_.2.1 s_.2.2.1 s_.2.2.2 H) ((none,0,0,0):(Option Addr)×Nat×Nat×Int) (by kernel_rfl) i37 sk ?_
    rintro⟨l,rootsN,rootsC,k_2⟩ H12 i39
    have h:=i38 l rootsN rootsC k_2 H12 i39
    refine T_su [(1,vs (some d) lN lC),(5,vp ra),(7,vs f madeN_2 madeC_2),(8,vi i),(9,vp (pa b)),(11,vs l rootsN rootsC),(12,vs none 0 0),(13,vi k_2)]<| T_sz<| T_srz 17<| T_ed 4 [] [(82,.bool (decide (k_2< (madeN_2:Int))))] ?_
    by_cases c40:k_2< (madeN_2:Int)
    ·rw[if_pos c40]at h
     refine T_cTz 82 (decide_eq_true c40)<| T_kt<| T_sz<| T_bz 5<| T_sz ?_
     obtain⟨af,rfl,h⟩:=h
     obtain⟨bn,q42,h⟩:=h
     obtain⟨n,rfl,h⟩:=h
     obtain⟨q43,h⟩:=h
     obtain⟨c5,q44,h⟩:=h
     refine S_regionG 19 (Code.ops K72) [(8,af,[vp bn]),(8,(n.add (Int.toNat k_2*1)),[vu c5])] 14 (bv 14 0) (by kernel_rfl) (by kernel_rfl) (by kernel_rfl) (by kernel_rfl) (by kernel_rfl) (show FactsAt _ _ _ from⟨⟨q42,trivial⟩,⟨q44,trivial⟩,trivial⟩) ?_
     refine T_gp 0 (some 86) (vp (some af)) (bv 14 1) [(1,vs (some d) lN lC),(5,vp (some af)),(7,vs (some n) madeN_2 madeC_2),(8,vi i),(9,vp (pa b)),(11,vs l rootsN rootsC),(12,vs none 0 0),(13,vi k_2),(86,vp (some af))]<| T_gp1 1 87 (vp (some af)) (bv 14 3) [86]<| T_gp1 2 88 (vp (some af)) (bv 14 7) [87]<| T_g1 3 89 (vp bn) (bv 14 15) [88] (loadN 54 (vp (some af))) (held_one 8 (λ_=>by kernel_rfl) (List.Mem.head _) (.inl (by kernel_rfl)))<| T_gp1 4 90 (vs (some n) madeN_2 madeC_2) (bv 14 31) []<| T_gp1 5 91 (vi k_2) (bv 14 63) []<| T_g1 6 92 (vp (some (n.add (Int.toNat k_2*1)))) (bv 14 127) [90,91] (indexAtN 34 (vs (some n) madeN_2 madeC_2) (vi k_2)) (λ_ w _ _ _=>indexAt_run (P:=Tryz.prog) (t:=34) (elem:=36) (sz:=1) (a:=n) (len:=madeN_2) (cap:=madeC_2) (k:=.i64) (i:=k_2) Tryz.underlying34 (λ_=>by kernel_rfl) q43.1 q43.2 w)<| T_g1 7 93 (vu c5) (bv 14 255) [92] (loadN 36 (vp (some (n.add (Int.toNat k_2*1))))) (held_one 8 (λ_=>by kernel_rfl) (List.Mem.tail _ (List.Mem.head _)) (.inl (by kernel_rfl))) ?_
     refine G_call 8 (some 94) (bv 14 511) 28 #[vp bn,vu c5] (by kernel_rfl) (λ_=>by kernel_rfl) h (by kernel_rfl) ?_;clear h
     rintro fc ei ⟨ai,ak,rfl,h⟩
     refine⟨[(1,vs (some d) lN lC),(5,vp (some af)),(7,vs (some n) madeN_2 madeC_2),(8,vi i),(9,vp (pa b)),(11,vs l rootsN rootsC),(12,vs none 0 0),(13,vi k_2),(94,.tuple #[vi ai,.bool ak])],pk,(show FactsAt _ _ _ from⟨trivial,trivial,trivial⟩),?_⟩
     refine T_g 9 (some 85) (.tuple #[vi ai,.bool ak]) (bv 14 1023) [(1,vs (some d) lN lC),(5,vp (some af)),(7,vs (some n) madeN_2 madeC_2),(8,vi i),(9,vp (pa b)),(11,vs l rootsN rootsC),(12,vs none 0 0),(13,vi k_2),(85,.tuple #[vi ai,.bool ak])] (pure (.value (.tuple #[vi ai,.bool ak])):Sem Next) (λ_ _ _ _ _=>rfl)<| T_g1 10 95 (vi ai) (bv 14 2047) [] (pure (.value (vi ai)):Sem Next) (λ_ _ _ _ _=>rfl)<| T_g1 11 96 (.bool ak) (bv 14 4095) [85] (pure (.value (.bool ak)):Sem Next) (λ_ _ _ _ _=>rfl)<| T_g1 12 14 (vi ai) (bv 14 8191) [95] (pure (.value (vi ai)):Sem Next) (λ_ _ _ _ _=>rfl)<| T_g1 13 15 (.bool ak) (bv 14 16383) [96] (pure (.value (.bool ak)):Sem Next) (λ_ _ _ _ _=>rfl) ?_
     refine G_sub [(1,vs (some d) lN lC),(5,vp (some af)),(7,vs (some n) madeN_2 madeC_2),(8,vi i),(9,vp (pa b)),(11,vs l rootsN rootsC),(12,vs none 0 0),(13,vi k_2),(14,vi ai),(15,.bool ak)] sk ?_
     refine G_end (by kernel_rfl) ?_
     refine S_then ?_
     refine T_srz 20<| T_n 1 [(1,vs (some d) lN lC),(5,vp (some af)),(7,vs (some n) madeN_2 madeC_2),(8,vi i),(9,vp (pa b)),(11,vs l rootsN rootsC),(12,vs none 0 0),(13,vi k_2),(14,vi ai),(15,.bool ak),(97,vp (some ((ad b).add 3)))] ?_
     obtain⟨da,q45,h⟩:=h
     refine T_l1 98 91 q45 [97]<| T_nd 1 [] [(99,vi k_2)] ?_
     refine T_c (some 100) h ?_;clear h
     rintro e6 bk ⟨cu,rfl,h⟩
     refine T_pd [98,99] [(100,.bool cu)]<| T_nd 1 [100] [(101,.bool cu)] ?_
     by_cases c46:cu=true
     ·rw[if_pos c46]at h
      refine N_bd 101 c46<| T_ed 8 [14,15,101] [(109,.bool true)]<| T_tz 109<| T_rz 21<| T_nd 3 [11,109] [(110,vs l rootsN rootsC),(111,vs (some n) madeN_2 madeC_2),(112,vi k_2)] ?_
      obtain⟨q48,h⟩:=h
      refine T_xd (some 113) 34 36 1 n madeN_2 madeC_2 .i64 k_2 Tryz.underlying34 q48.1 q48.2 [111,112] [(113,vp (some (n.add (Int.toNat k_2*1))))] ?_
      obtain⟨di,q49,h⟩:=h
      refine T_l1 114 36 q49 [113]<| T_nw (some 115) (λb=>vs (pa b) 1 1) (.cells #[vu di] 36) ?_
      intro dq H15 e50 e51
      replace h:=h dq H15 e50 e51
      refine T_pd [114] [(115,vs (pa dq) 1 1)] ?_
      refine N_op (some 116) (appendN #[34,34] 34 #[vs l rootsN rootsC,vs (pa dq) 1 1]) _ (λ_=>by kernel_rfl) (ss_append (T:=36) (sz:=1) (bytes:=8) (zero:=(vu 0:Value)) Tryz.underlying34 Tryz.underlying34 rfl (show Tryz.prog.info? 36=some Tryz.t36 from by kernel_rfl) (by kernel_rfl) (by kernel_rfl) (by decide) (by kernel_rfl) (by first | exact h | (simpa only[Value.cells,List.toList_toArray]using h))) ?_;clear h
      rintro _ er ⟨ap,de,rfl,h⟩
      refine T_pd [110,115] [(116,vs ap (rootsN+1) de)]<| T_nd 1 [116] [(11,vs ap (rootsN+1) de)] ?_
      refine N_end (by kernel_rfl) ?_
      refine S_blockEnd ?_
      refine S_then ?_
      refine T_rz 18<| T_ed 3 [13] [(13,vi (IntKind.wrap .i64 (k_2+1)))] ?_
      exact S_round ((ap,(rootsN+1),de,(IntKind.wrap .i64 (k_2+1))):(Option Addr)×Nat×Nat×Int) sk h
     rw[if_neg c46]at h
     refine N_bd 101 (eq_false_of_ne_true c46)<| T_nd 2 [15] [(103,.bool ak)] ?_
     by_cases c52:ak=true
     ·rw[if_pos c52]at h
      refine N_bd 103 c52<| T_nd 2 [14] [(104,vi ai),(105,vp (some ((ad b).add 1)))] ?_
      obtain⟨ch,q54,h⟩:=h
      refine T_l1 106 3 q54 [105]<| T_ed 3 [101,103,104,106] [(109,.bool (decide (ai>ch)))] ?_
      by_cases c55:ai>ch
      ·rw[if_pos c55]at h
       refine T_cTz 109 (decide_eq_true c55)<| T_rz 21<| T_nd 3 [11,109] [(110,vs l rootsN rootsC),(111,vs (some n) madeN_2 madeC_2),(112,vi k_2)] ?_
       obtain⟨q57,h⟩:=h
       refine T_xd (some 113) 34 36 1 n madeN_2 madeC_2 .i64 k_2 Tryz.underlying34 q57.1 q57.2 [111,112] [(113,vp (some (n.add (Int.toNat k_2*1))))] ?_
       obtain⟨ci,q58,h⟩:=h
       refine T_l1 114 36 q58 [113]<| T_nw (some 115) (λb=>vs (pa b) 1 1) (.cells #[vu ci] 36) ?_
       intro dl H17 e59 e60
       replace h:=h dl H17 e59 e60
       refine T_pd [114] [(115,vs (pa dl) 1 1)] ?_
       refine N_op (some 116) (appendN #[34,34] 34 #[vs l rootsN rootsC,vs (pa dl) 1 1]) _ (λ_=>by kernel_rfl) (ss_append (T:=36) (sz:=1) (bytes:=8) (zero:=(vu 0:Value)) Tryz.underlying34 Tryz.underlying34 rfl (show Tryz.prog.info? 36=some Tryz.t36 from by kernel_rfl) (by kernel_rfl) (by kernel_rfl) (by decide) (by kernel_rfl) (by first | exact h | (simpa only[Value.cells,List.toList_toArray]using h))) ?_;clear h
       rintro _ ek ⟨b4,be,rfl,h⟩
       refine T_pd [110,115] [(116,vs b4 (rootsN+1) be)]<| T_nd 1 [116] [(11,vs b4 (rootsN+1) be)] ?_
       refine N_end (by kernel_rfl) ?_
       refine S_blockEnd ?_
       refine S_then ?_
       refine T_rz 18<| T_ed 3 [13] [(13,vi (IntKind.wrap .i64 (k_2+1)))] ?_
       exact S_round ((b4,(rootsN+1),be,(IntKind.wrap .i64 (k_2+1))):(Option Addr)×Nat×Nat×Int) sk h
      rw[if_neg c55]at h
      refine T_cFz 109 (decide_eq_false c55)<| T_k ?_
      refine S_blockEnd ?_
      refine S_then ?_
      refine T_rz 18<| T_ed 3 [13,109] [(13,vi (IntKind.wrap .i64 (k_2+1)))] ?_
      exact S_round ((l,rootsN,rootsC,(IntKind.wrap .i64 (k_2+1))):(Option Addr)×Nat×Nat×Int) sk h
     rw[if_neg c52]at h
     refine N_bd 103 (eq_false_of_ne_true c52)<| T_ed 6 [14,101,103] [(109,.bool false)]<| T_fz 109<| T_k ?_
     refine S_blockEnd ?_
     refine S_then ?_
     refine T_rz 18<| T_ed 3 [13,109] [(13,vi (IntKind.wrap .i64 (k_2+1)))] ?_
     exact S_round ((l,rootsN,rootsC,(IntKind.wrap .i64 (k_2+1))):(Option Addr)×Nat×Nat×Int) sk h
    rw[if_neg c40]at h
    refine T_cFz 82 (decide_eq_false c40) ?_
    refine S_exit 4 (by kernel_rfl) ?_
    refine S_exitThen ?_
    refine S_exitThen ?_
    refine S_exitHere ?_
    refine S_then ?_
    refine T_srz 22<| T_nd 2 [13,82] [(117,vp ra),(118,vs l rootsN rootsC)] ?_
    refine T_c (some 119) h ?_;clear h
    rintro fk ex ⟨r,s,q,rfl,h⟩
    refine T_pd [117,118] [(119,vs r s q)]<| T_ed 1 [119] [(16,vs r s q)]<| T_srz 23<| T_nd 3 [] [(120,vp ra),(121,vs l rootsN rootsC),(122,vp (some ((ad b).add 1)))] ?_
    obtain⟨ct,q61,h⟩:=h
    refine T_l1 123 3 q61 [122] ?_
    refine T_c (some 124) h ?_;clear h
    rintro fe ea ⟨o,rfl,h⟩
    refine T_pd [120,121,123] [(124,vi o)]<| T_ed 1 [124] [(17,vi o)]<| T_srz 24<| T_nd 2 [] [(126,vp ra),(127,vp (some ((ad b).add 1)))] ?_
    obtain⟨bl,q62,h⟩:=h
    refine T_l1 128 3 q62 [127]<| T_nd 1 [] [(129,vp (some ((ad b).add 2)))] ?_
    obtain⟨cp,q63,h⟩:=h
    refine T_l1 130 3 q63 [129] ?_
    refine T_c (some 131) h ?_;clear h
    rintro ew bz ⟨p,ah,rfl,h⟩
    refine T_pd [126,128,130] [(131,.tuple #[vp p,vi ah])]<| T_ed 5 [131] [(18,vp p),(19,vi ah)]<| T_sz<| T_srz 25<| T_ne 2 [(1,vs (some d) lN lC),(5,vp ra),(7,vs f madeN_2 madeC_2),(8,vi i),(9,vp (pa b)),(11,vs l rootsN rootsC),(12,vs none 0 0),(16,vs r s q),(17,vi o),(18,vp p),(19,vi ah),(135,.bool (ah !=0))] ?_
    by_cases c64:ah=0
    ·rw[if_pos c64]at h
     refine T_cFz 135 (bne_eq_false_iff_eq.mpr c64)<| T_kt<| T_srz 28<| T_ed 1 [7,19,135] [(20,vi 0)]<| T_sz<| T_srz 29<| T_nd 1 [] [(166,vp (some ((ad b).add 1)))] ?_
     obtain⟨b8,q66,h⟩:=h
     refine T_l1 167 3 q66 [166]<| T_ed 2 [167] [(21,vi (IntKind.wrap .i64 (b8+1)))]<| T_bz 6 ?_
     obtain⟨dw,m98,i67,i68⟩:=h
     refine S_loop (x:=K97) (σ:=Int×Int) (λs_=> [(1,vs (some d) lN lC),(5,vp ra),(8,vi i),(9,vp (pa b)),(11,vs l rootsN rootsC),(12,vs none 0 0),(16,vs r s q),(17,vi o),(18,vp p),(20,vi s_.1),(21,vi s_.2)]) (λs_ H=>dw s_.1 s_.2 H) (λs_ H=>m98 s_.1 s_.2 H) ((0,(IntKind.wrap .i64 (b8+1))):Int×Int) (by kernel_rfl) i67 sk ?_
     rintro⟨m,g⟩ H22 i69
     have h:=i68 m g H22 i69
     refine T_su [(1,vs (some d) lN lC),(5,vp ra),(8,vi i),(9,vp (pa b)),(11,vs l rootsN rootsC),(12,vs none 0 0),(16,vs r s q),(17,vi o),(18,vp p),(20,vi m),(21,vi g)]<| T_sz<| T_srz 30<| T_ed 2 [] [(170,.bool (decide (g<=4)))] ?_
     by_cases c70:g<=4
     ·rw[if_pos c70]at h
      refine T_cTz 170 (decide_eq_true c70)<| T_kt<| T_sz<| T_bz 7<| T_rz 32<| T_nd 2 [20,170] [(173,vi m),(174,vp ra)] ?_
      obtain⟨ao,rfl,h⟩:=h
      refine T_nd 2 [5,174] [(5,vp (some ao)),(176,vp (some ao))] ?_
      obtain⟨c9,q72,h⟩:=h
      refine T_l1 177 54 q72 [176] ?_
      obtain⟨c7,rfl,h⟩:=h
      refine T_nd 2 [177] [(179,vp (some c7))] ?_
      obtain⟨bm,q73,h⟩:=h
      refine T_l1 180 58 q73 [179]<| T_nd 1 [] [(181,vi g)]<| T_nw (some 182) (λb=>vs (pa b) 1 1) (.cells #[vi g] 3) ?_
      intro dm H23 e74 e75
      replace h:=h dm H23 e74 e75
      refine T_pd [181] [(182,vs (pa dm) 1 1)] ?_
      refine T_c (some 183) h ?_;clear h
      rintro ef et ⟨bo,rfl,h⟩
      refine T_pd [180,182] [(183,vi bo)]<| T_nd 2 [173,183] [(20,vi (IntKind.wrap .i64 (m+bo)))] ?_
      refine N_end (by kernel_rfl) ?_
      refine S_blockEnd ?_
      refine S_then ?_
      refine T_rz 31<| T_ed 3 [21] [(21,vi (IntKind.wrap .i64 (g+1)))] ?_
      exact S_round (((IntKind.wrap .i64 (m+bo)),(IntKind.wrap .i64 (g+1))):Int×Int) sk h
     rw[if_neg c70]at h
     refine T_cFz 170 (decide_eq_false c70) ?_
     refine S_exit 6 (by kernel_rfl) ?_
     refine S_exitThen ?_
     refine S_exitThen ?_
     refine S_exitHere ?_
     refine S_then ?_
     refine T_sz<| T_srz 33<| T_ed 1 [21,170] [(22,vi 0)]<| T_bz 8 ?_
     obtain⟨c0,m113,i76,i77⟩:=h
     refine S_loop (x:=K112) (σ:=(Option Addr)×Nat×Nat×Int) (λs_=> [(1,vs (some d) lN lC),(5,vp ra),(8,vi i),(9,vp (pa b)),(11,vs l rootsN rootsC),(12,vs s_.1 s_.2.1 s_.2.2.1),(16,vs r s q),(17,vi o),(18,vp p),(20,vi m),(22,vi s_.2.2.2)]) (λs_ H=>c0 s_.1 s_.2.1 s_.2.2.1 s_.2.2.2 H) (λs_ H=>m113 s_.1 s_.2.1 s_.2.2.1 s_.2.2.2 H) ((none,0,0,0):(Option Addr)×Nat×Nat×Int) (by kernel_rfl) i76 sk ?_
     rintro⟨j,youngN,youngC,k_3⟩ H25 i78
     have h:=i77 j youngN youngC k_3 H25 i78
     refine T_su [(1,vs (some d) lN lC),(5,vp ra),(8,vi i),(9,vp (pa b)),(11,vs l rootsN rootsC),(12,vs j youngN youngC),(16,vs r s q),(17,vi o),(18,vp p),(20,vi m),(22,vi k_3)]<| T_sz<| T_srz 34<| T_ed 4 [] [(188,.bool (decide (k_3< (rootsN:Int))))] ?_
     by_cases c79:k_3< (rootsN:Int)
     ·rw[if_pos c79]at h
      refine T_cTz 188 (decide_eq_true c79)<| T_kt<| T_sz<| T_bz 9<| T_rz 36<| T_nd 4 [12,188] [(191,vs j youngN youngC),(192,vp p),(193,vs l rootsN rootsC),(194,vi k_3)] ?_
      obtain⟨aj,rfl,h⟩:=h
      obtain⟨q81,h⟩:=h
      refine T_xd (some 195) 34 36 1 aj rootsN rootsC .i64 k_3 Tryz.underlying34 q81.1 q81.2 [11,193,194] [(11,vs (some aj) rootsN rootsC),(195,vp (some (aj.add (Int.toNat k_3*1))))] ?_
      obtain⟨ck,q82,h⟩:=h
      refine T_l1 196 36 q82 [195] ?_
      refine T_c (some 197) h ?_;clear h
      rintro e1 ep ⟨c3,rfl,h⟩
      refine T_pd [192,196] [(197,vu c3)]<| T_nw (some 198) (λb=>vs (pa b) 1 1) (.cells #[vu c3] 36) ?_
      intro dj H27 e83 e84
      replace h:=h dj H27 e83 e84
      refine T_pd [197] [(198,vs (pa dj) 1 1)] ?_
      refine N_op (some 199) (appendN #[34,34] 34 #[vs j youngN youngC,vs (pa dj) 1 1]) _ (λ_=>by kernel_rfl) (ss_append (T:=36) (sz:=1) (bytes:=8) (zero:=(vu 0:Value)) Tryz.underlying34 Tryz.underlying34 rfl (show Tryz.prog.info? 36=some Tryz.t36 from by kernel_rfl) (by kernel_rfl) (by kernel_rfl) (by decide) (by kernel_rfl) (by first | exact h | (simpa only[Value.cells,List.toList_toArray]using h))) ?_;clear h
      rintro _ ev ⟨cc,bh,rfl,h⟩
      refine T_pd [191,198] [(199,vs cc (youngN+1) bh)]<| T_nd 1 [199] [(12,vs cc (youngN+1) bh)] ?_
      refine N_end (by kernel_rfl) ?_
      refine S_blockEnd ?_
      refine S_then ?_
      refine T_rz 35<| T_ed 3 [22] [(22,vi (IntKind.wrap .i64 (k_3+1)))] ?_
      exact S_round ((cc,(youngN+1),bh,(IntKind.wrap .i64 (k_3+1))):(Option Addr)×Nat×Nat×Int) sk h
     rw[if_neg c79]at h
     refine T_cFz 188 (decide_eq_false c79) ?_
     refine S_exit 8 (by kernel_rfl) ?_
     refine S_exitThen ?_
     refine S_exitThen ?_
     refine S_exitHere ?_
     refine S_then ?_
     refine T_srz 37<| T_nd 1 [11,22,188] [(200,vp p)] ?_
     refine T_c (some 201) h ?_;clear h
     intro v_13 e7 h
     refine T_pd [200] []<| T_e<| T_srz 38<| T_nd 1 [] [(202,vp p)] ?_
     refine T_c (some 203) h ?_;clear h
     intro v_14 fi h
     refine T_pd [202] []<| T_e<| T_srz 39<| T_nd 1 [] [(204,vp p)] ?_
     refine T_c (some 205) h ?_;clear h
     rintro e0 ff ⟨ba,z,ac,rfl,h⟩
     refine T_pd [204] [(205,vs ba z ac)]<| T_ed 1 [205] [(23,vs ba z ac)]<| T_sz<| T_srz 40<| T_ed 1 [] [(24,vi 0)]<| T_bz 10 ?_
     obtain⟨cq,m134,i85,i86⟩:=h
     refine S_loop (x:=K133) (σ:=Int) (λs_=> [(1,vs (some d) lN lC),(5,vp ra),(8,vi i),(9,vp (pa b)),(12,vs j youngN youngC),(16,vs r s q),(17,vi o),(18,vp p),(20,vi m),(23,vs ba z ac),(24,vi s_)]) (λs_ H=>cq s_ H) (λs_ H=>m134 s_ H) (0:Int) (by kernel_rfl) i85 sk ?_
     rintro ab H32 i87
     have h:=i86 ab H32 i87
     refine T_su [(1,vs (some d) lN lC),(5,vp ra),(8,vi i),(9,vp (pa b)),(12,vs j youngN youngC),(16,vs r s q),(17,vi o),(18,vp p),(20,vi m),(23,vs ba z ac),(24,vi ab)]<| T_sz<| T_srz 41<| T_ed 4 [] [(209,.bool (decide (ab< (z:Int))))] ?_
     by_cases c88:ab< (z:Int)
     ·rw[if_pos c88]at h
      refine T_cTz 209 (decide_eq_true c88)<| T_kt<| T_sz<| T_bz 11<| T_sz ?_
      obtain⟨u,rfl,h⟩:=h
      obtain⟨d4,q90,h⟩:=h
      obtain⟨a2,rfl,h⟩:=h
      obtain⟨d0,q91,h⟩:=h
      obtain⟨ay,rfl,h⟩:=h
      obtain⟨bb,q92,h⟩:=h
      obtain⟨aa,rfl,h⟩:=h
      obtain⟨q93,h⟩:=h
      obtain⟨ce,q94,h⟩:=h
      refine S_regionG 43 (Code.ops K143) [(14,u,[vp (some a2)]),(14,a2,[vp (some ay)]),(14,ay,[vp bb]),(14,(aa.add (Int.toNat ab*1)),[vi ce])] 20 (bv 20 0) (by kernel_rfl) (by kernel_rfl) (by kernel_rfl) (by kernel_rfl) (by kernel_rfl) (show FactsAt _ _ _ from⟨⟨q90,trivial⟩,⟨q91,trivial⟩,⟨q92,trivial⟩,⟨q94,trivial⟩,trivial⟩) ?_
      refine T_gp 0 (some 213) (vp (some u)) (bv 20 1) [(1,vs (some d) lN lC),(5,vp (some u)),(8,vi i),(9,vp (pa b)),(12,vs j youngN youngC),(16,vs r s q),(17,vi o),(18,vp p),(20,vi m),(23,vs (some aa) z ac),(24,vi ab),(213,vp (some u))]<| T_gp1 1 214 (vp (some u)) (bv 20 3) [213]<| T_gp1 2 215 (vp (some u)) (bv 20 7) [214]<| T_g1 3 216 (vp (some a2)) (bv 20 15) [215] (loadN 54 (vp (some u))) (held_one 14 (λ_=>by kernel_rfl) (List.Mem.head _) (.inl (by kernel_rfl)))<| T_gp1 4 217 (vp (some a2)) (bv 20 31) [216]<| T_gp1 5 218 (vp (some a2)) (bv 20 63) [217]<| T_g1 6 219 (vp (some ay)) (bv 20 127) [218] (loadN 58 (vp (some a2))) (held_one 14 (λ_=>by kernel_rfl) (List.Mem.tail _ (List.Mem.head _)) (.inl (by kernel_rfl)))<| T_gp1 7 220 (vp (some ay)) (bv 20 255) [219]<| T_gp1 8 221 (vp (some ay)) (bv 20 511) [220] ?_
      refine T_g1 9 222 (vp bb) (bv 20 1023) [221] (loadN 61 (vp (some ay))) (held_one 14 (λ_=>by kernel_rfl) (List.Mem.tail _ (List.Mem.tail _ (List.Mem.head _))) (.inl (by kernel_rfl)))<| T_gp1 10 223 (vs (some aa) z ac) (bv 20 2047) []<| T_gp1 11 224 (vi ab) (bv 20 4095) []<| T_g1 12 225 (vp (some (aa.add (Int.toNat ab*1)))) (bv 20 8191) [223,224] (indexAtN 52 (vs (some aa) z ac) (vi ab)) (λ_ w _ _ _=>indexAt_run (P:=Tryz.prog) (t:=52) (elem:=3) (sz:=1) (a:=aa) (len:=z) (cap:=ac) (k:=.i64) (i:=ab) Tryz.underlying52 (λ_=>by kernel_rfl) q93.1 q93.2 w)<| T_g1 13 226 (vi ce) (bv 20 16383) [225] (loadN 3 (vp (some (aa.add (Int.toNat ab*1))))) (held_one 14 (λ_=>by kernel_rfl) (List.Mem.tail _ (List.Mem.tail _ (List.Mem.tail _ (List.Mem.head _)))) (.inl (by kernel_rfl))) ?_
      refine G_call 14 (some 227) (bv 20 32767) 38 #[vp bb,vi ce] (by kernel_rfl) (λ_=>by kernel_rfl) h (by kernel_rfl) ?_;clear h
      rintro eg fj ⟨an,a7,rfl,h⟩
      refine⟨[(1,vs (some d) lN lC),(5,vp (some u)),(8,vi i),(9,vp (pa b)),(12,vs j youngN youngC),(16,vs r s q),(17,vi o),(18,vp p),(20,vi m),(23,vs (some aa) z ac),(24,vi ab),(227,.tuple #[vu an,vi a7])],pk,(show FactsAt _ _ _ from⟨trivial,trivial,trivial,trivial,trivial⟩),?_⟩
      refine T_g 15 (some 212) (.tuple #[vu an,vi a7]) (bv 20 65535) [(1,vs (some d) lN lC),(5,vp (some u)),(8,vi i),(9,vp (pa b)),(12,vs j youngN youngC),(16,vs r s q),(17,vi o),(18,vp p),(20,vi m),(23,vs (some aa) z ac),(24,vi ab),(212,.tuple #[vu an,vi a7])] (pure (.value (.tuple #[vu an,vi a7])):Sem Next) (λ_ _ _ _ _=>rfl)<| T_g1 16 228 (vu an) (bv 20 131071) [] (pure (.value (vu an)):Sem Next) (λ_ _ _ _ _=>rfl)<| T_g1 17 229 (vi a7) (bv 20 262143) [212] (pure (.value (vi a7)):Sem Next) (λ_ _ _ _ _=>rfl)<| T_g1 18 25 (vu an) (bv 20 524287) [228] (pure (.value (vu an)):Sem Next) (λ_ _ _ _ _=>rfl)<| T_gd 19 (some 26) (vi a7) (bv 20 1048575) [229] [] (pure (.value (vi a7)):Sem Next) (λ_ _ _ _ _=>rfl) ?_
      refine G_sub [(1,vs (some d) lN lC),(5,vp (some u)),(8,vi i),(9,vp (pa b)),(12,vs j youngN youngC),(16,vs r s q),(17,vi o),(18,vp p),(20,vi m),(23,vs (some aa) z ac),(24,vi ab),(25,vu an)] sk ?_
      refine G_end (by kernel_rfl) ?_
      refine S_then ?_
      refine T_srz 44<| T_n 2 [(1,vs (some d) lN lC),(5,vp (some u)),(8,vi i),(9,vp (pa b)),(12,vs j youngN youngC),(16,vs r s q),(17,vi o),(18,vp p),(20,vi m),(23,vs (some aa) z ac),(24,vi ab),(230,vp p),(231,vu an)] ?_
      refine T_c (some 232) h ?_;clear h
      rintro es cv ⟨cg,rfl,h⟩
      refine T_pd [230,231] [(232,.bool cg)]<| T_e ?_
      by_cases c95:cg=true
      ·rw[if_pos c95]at h
       refine T_cTz 232 c95 ?_
       obtain⟨d5,q97,h⟩:=h
       obtain⟨a6,rfl,h⟩:=h
       obtain⟨d7,q98,h⟩:=h
       obtain⟨a4,rfl,h⟩:=h
       obtain⟨a9,q99,h⟩:=h
       obtain⟨q100,h⟩:=h
       obtain⟨b1,q101,h⟩:=h
       refine S_regionG 45 (Code.ops K147) [(14,u,[vp (some a6)]),(14,a6,[vp (some a4)]),(14,a4,[vp a9]),(14,(aa.add (Int.toNat ab*1)),[vi b1])] 15 (bv 15 0) (by kernel_rfl) (by kernel_rfl) (by kernel_rfl) (by kernel_rfl) (by kernel_rfl) (show FactsAt _ _ _ from⟨⟨q97,trivial⟩,⟨q98,trivial⟩,⟨q99,trivial⟩,⟨q101,trivial⟩,trivial⟩) ?_
       refine T_gp 0 (some 233) (vp (some u)) (bv 15 1) [(1,vs (some d) lN lC),(5,vp (some u)),(8,vi i),(9,vp (pa b)),(12,vs j youngN youngC),(16,vs r s q),(17,vi o),(18,vp p),(20,vi m),(23,vs (some aa) z ac),(24,vi ab),(233,vp (some u))]<| T_gp1 1 234 (vp (some u)) (bv 15 3) [233]<| T_gp1 2 235 (vp (some u)) (bv 15 7) [234]<| T_g1 3 236 (vp (some a6)) (bv 15 15) [235] (loadN 54 (vp (some u))) (held_one 14 (λ_=>by kernel_rfl) (List.Mem.head _) (.inl (by kernel_rfl)))<| T_gp1 4 237 (vp (some a6)) (bv 15 31) [236]<| T_gp1 5 238 (vp (some a6)) (bv 15 63) [237]<| T_g1 6 239 (vp (some a4)) (bv 15 127) [238] (loadN 58 (vp (some a6))) (held_one 14 (λ_=>by kernel_rfl) (List.Mem.tail _ (List.Mem.head _)) (.inl (by kernel_rfl)))<| T_gp1 7 240 (vp (some a4)) (bv 15 255) [239]<| T_gp1 8 241 (vp (some a4)) (bv 15 511) [240] ?_
       refine T_g1 9 242 (vp a9) (bv 15 1023) [241] (loadN 61 (vp (some a4))) (held_one 14 (λ_=>by kernel_rfl) (List.Mem.tail _ (List.Mem.tail _ (List.Mem.head _))) (.inl (by kernel_rfl)))<| T_gp1 10 243 (vs (some aa) z ac) (bv 15 2047) []<| T_gp1 11 244 (vi ab) (bv 15 4095) []<| T_g1 12 245 (vp (some (aa.add (Int.toNat ab*1)))) (bv 15 8191) [243,244] (indexAtN 52 (vs (some aa) z ac) (vi ab)) (λ_ w _ _ _=>indexAt_run (P:=Tryz.prog) (t:=52) (elem:=3) (sz:=1) (a:=aa) (len:=z) (cap:=ac) (k:=.i64) (i:=ab) Tryz.underlying52 (λ_=>by kernel_rfl) q100.1 q100.2 w)<| T_g1 13 246 (vi b1) (bv 15 16383) [245] (loadN 3 (vp (some (aa.add (Int.toNat ab*1))))) (held_one 14 (λ_=>by kernel_rfl) (List.Mem.tail _ (List.Mem.tail _ (List.Mem.tail _ (List.Mem.head _)))) (.inl (by kernel_rfl))) ?_
       refine G_call 14 (some 247) (bv 15 32767) 40 #[vp a9,vi b1,vu 44] (by kernel_rfl) (λ_=>by kernel_rfl) h (by kernel_rfl) ?_;clear h
       rintro ey el ⟨em,rfl,h⟩
       refine⟨[(1,vs (some d) lN lC),(5,vp (some u)),(8,vi i),(9,vp (pa b)),(12,vs j youngN youngC),(16,vs r s q),(17,vi o),(18,vp p),(20,vi m),(23,vs (some aa) z ac),(24,vi ab)],pk,(show FactsAt _ _ _ from⟨trivial,trivial,trivial,trivial,trivial⟩),?_⟩
       refine G_sub [(1,vs (some d) lN lC),(5,vp (some u)),(8,vi i),(9,vp (pa b)),(12,vs j youngN youngC),(16,vs r s q),(17,vi o),(18,vp p),(20,vi m),(23,vs (some aa) z ac),(24,vi ab)] sk ?_
       refine G_end (by kernel_rfl) ?_
       refine S_blockEnd ?_
       refine S_then ?_
       refine T_rz 42<| T_ne 3 [(1,vs (some d) lN lC),(5,vp (some u)),(8,vi i),(9,vp (pa b)),(12,vs j youngN youngC),(16,vs r s q),(17,vi o),(18,vp p),(20,vi m),(23,vs (some aa) z ac),(24,vi (IntKind.wrap .i64 (ab+1)))] ?_
       exact S_round ((IntKind.wrap .i64 (ab+1)):Int) sk h
      rw[if_neg c95]at h
      refine T_cFz 232 (eq_false_of_ne_true c95)<| T_k ?_
      refine S_blockEnd ?_
      refine S_then ?_
      refine T_rz 42<| T_ed 3 [24,232] [(24,vi (IntKind.wrap .i64 (ab+1)))] ?_
      exact S_round ((IntKind.wrap .i64 (ab+1)):Int) sk h
     rw[if_neg c88]at h
     refine T_cFz 209 (decide_eq_false c88) ?_
     refine S_exit 10 (by kernel_rfl) ?_
     refine S_exitThen ?_
     refine S_exitThen ?_
     refine S_exitHere ?_
     refine S_then ?_
     refine T_srz 46<| T_nd 1 [18,23,24,209] [(248,vp p)] ?_
     refine T_c (some 249) h ?_;clear h
     intro v_19 fh h
     refine T_pd [248] []<| T_e<| T_srz 47<| T_ed 2 [12] [(7,vs j youngN youngC)]<| T_sz<| T_srz 48<| T_nd 2 [] [(251,vp ra),(252,vs j youngN youngC)] ?_
     refine T_c (some 253) h ?_;clear h
     rintro ej e5 ⟨cj,cl,cs,rfl,h⟩
     refine T_pd [251,252] [(253,vs cj cl cs)]<| T_nd 1 [16] [(254,vs r s q)] ?_
     refine T_c (some 255) h ?_;clear h
     rintro e2 du ⟨bd,rfl,h⟩
     refine T_pd [253,254] [(255,.bool bd)]<| T_nd 2 [255] [(257,.bool (!bd))] ?_
     by_cases c102:bd=true
     ·rw[if_pos c102]at h
      have b103:(!bd)=false:=congrArg Bool.not (c102)
      have b1032:bd=true:=c102
      refine N_bd 257 (b:=(!bd)) (v:=false) (by simp only[b103,b1032,Bool.not_true,Bool.not_false]) ?_
      clear b103 b1032
      refine T_nd 1 [] [(258,vp ra)] ?_
      obtain⟨ae,rfl,h⟩:=h
      refine T_nd 2 [5,258] [(5,vp (some ae)),(260,vp (some ae))] ?_
      obtain⟨dg,q104,h⟩:=h
      refine T_l1 261 54 q104 [260] ?_
      obtain⟨cy,rfl,h⟩:=h
      refine T_nd 2 [261] [(263,vp (some cy))] ?_
      obtain⟨cr,q105,h⟩:=h
      refine T_l1 264 58 q105 [263] ?_
      refine T_c (some 265) h ?_;clear h
      rintro ee en ⟨bp,rfl,h⟩
      refine T_pd [264] [(265,vi bp)]<| T_ed 5 [17,20,257,265] [(270,.bool (bp !=(IntKind.wrap .i64 (m+o))))] ?_
      by_cases c106:bp=(IntKind.wrap .i64 (m+o))
      ·rw[if_pos c106]at h
       refine T_cFz 270 (bne_eq_false_iff_eq.mpr c106)<| T_kt<| T_srz 50<| T_ed 1 [270] [(27,vi 0)]<| T_bz 12 ?_
       obtain⟨cm,m163,i108,i109⟩:=h
       refine S_loop (x:=K162) (σ:=Int) (λs_=> [(1,vs (some d) lN lC),(5,vp (some ae)),(7,vs j youngN youngC),(8,vi i),(9,vp (pa b)),(27,vi s_)]) (λs_ H=>cm s_ H) (λs_ H=>m163 s_ H) (0:Int) (by kernel_rfl) i108 sk ?_
       rintro ag H40 i110
       have h:=i109 ag H40 i110
       refine T_su [(1,vs (some d) lN lC),(5,vp (some ae)),(7,vs j youngN youngC),(8,vi i),(9,vp (pa b)),(27,vi ag)]<| T_sz<| T_srz 51<| T_nd 2 [] [(271,vi ag),(272,vp (some ((ad b).add 1)))] ?_
       obtain⟨bf,q111,h⟩:=h
       refine T_l1 273 3 q111 [272]<| T_ed 1 [271,273] [(274,.bool (decide (ag<=bf)))] ?_
       by_cases c112:ag<=bf
       ·rw[if_pos c112]at h
        refine T_cTz 274 (decide_eq_true c112)<| T_kt<| T_sz<| T_bz 13<| T_srz 53<| T_nd 2 [274] [(277,vi ag),(278,vp (some ((ad b).add 2)))] ?_
        obtain⟨bi,q114,h⟩:=h
        refine T_l1 279 3 q114 [278]<| T_nd 2 [277,279] [(281,.bool (ag !=bi))] ?_
        by_cases c115:ag=bi
        ·rw[if_pos c115]at h
         refine N_bd 281 (bne_eq_false_iff_eq.mpr c115)<| T_ed 12 [281] [(293,.bool false)]<| T_fz 293<| T_k ?_
         refine S_blockEnd ?_
         refine S_then ?_
         refine T_rz 52<| T_ed 3 [27,293] [(27,vi (IntKind.wrap .i64 (ag+1)))] ?_
         exact S_round ((IntKind.wrap .i64 (ag+1)):Int) sk h
        rw[if_neg c115]at h
        refine N_bd 281 (bne_iff_ne.mpr c115)<| T_nd 3 [] [(284,vp (some ae))] ?_
        obtain⟨db,q117,h⟩:=h
        refine T_l1 285 54 q117 [284] ?_
        obtain⟨dh,rfl,h⟩:=h
        refine T_nd 2 [285] [(287,vp (some dh))] ?_
        obtain⟨bu,q118,h⟩:=h
        refine T_l1 288 58 q118 [287]<| T_nd 1 [] [(289,vi ag)]<| T_nw (some 290) (λb=>vs (pa b) 1 1) (.cells #[vi ag] 3) ?_
        intro dp H41 e119 e120
        replace h:=h dp H41 e119 e120
        refine T_pd [289] [(290,vs (pa dp) 1 1)] ?_
        refine T_c (some 291) h ?_;clear h
        rintro ec d9 ⟨br,rfl,h⟩
        refine T_pd [288,290] [(291,vi br)]<| T_ed 2 [281,291] [(293,.bool (br !=0))] ?_
        by_cases c121:br=0
        ·rw[if_pos c121]at h
         refine T_cFz 293 (bne_eq_false_iff_eq.mpr c121)<| T_k ?_
         refine S_blockEnd ?_
         refine S_then ?_
         refine T_rz 52<| T_ed 3 [27,293] [(27,vi (IntKind.wrap .i64 (ag+1)))] ?_
         exact S_round ((IntKind.wrap .i64 (ag+1)):Int) sk h
        rw[if_neg c121]at h
        exact T_cTz 293 (bne_iff_ne.mpr c121)<| T_srz 54<| T_nr 1 [4] [.bool false] hQ h
       rw[if_neg c112]at h
       refine T_cFz 274 (decide_eq_false c112) ?_
       refine S_exit 12 (by kernel_rfl) ?_
       refine S_exitThen ?_
       refine S_exitThen ?_
       refine S_exitHere ?_
       refine S_blockEnd ?_
       refine S_then ?_
       refine T_rz 9<| T_ed 3 [8,9,27,274] [(8,vi (IntKind.wrap .i64 (i+1)))] ?_
       exact S_round ((j,youngN,youngC,(IntKind.wrap .i64 (i+1))):(Option Addr)×Nat×Nat×Int) sk h
      rw[if_neg c106]at h
      exact T_cTz 270 (bne_iff_ne.mpr c106)<| T_srz 49<| T_nr 1 [4] [.bool false] hQ h
     rw[if_neg c102]at h
     have b103:(!bd)=true:=congrArg Bool.not (eq_false_of_ne_true c102)
     have b1032:bd=false:=eq_false_of_ne_true c102
     refine N_bd 257 (b:=(!bd)) (v:=true) (by simp only[b103,b1032,Bool.not_true,Bool.not_false]) ?_
     clear b103 b1032
     exact T_ed 13 [17,20,257] [(270,.bool true)]<| T_tz 270<| T_srz 49<| T_nr 1 [4] [.bool false] hQ h
    rw[if_neg c64]at h
    refine T_cTz 135 (bne_iff_ne.mpr c64)<| T_sz<| T_sz ?_
    obtain⟨dy,h,j124⟩:=h
    refine S_join (σ:=Bool) (λs_=> [(1,vs (some d) lN lC),(5,vp ra),(7,vs f madeN_2 madeC_2),(8,vi i),(165,.bool s_)]) (λs_ H=>dy s_ H) ?_ ?_
    ·rintro bs H43 j125
     replace h:=j124 bs H43 j125
     refine T_su [(1,vs (some d) lN lC),(5,vp ra),(7,vs f madeN_2 madeC_2),(8,vi i),(165,.bool bs)] ?_
     refine S_then ?_
     by_cases c126:bs=true
     ·rw[if_pos c126]at h
      have b127:bs=true:=c126
      refine S_env [(1,vs (some d) lN lC),(5,vp ra),(7,vs f madeN_2 madeC_2),(8,vi i),(165,.bool true)] (by rw[b127]) ?_
      clear b127
      exact T_tz 165<| T_srz 27<| T_nr 1 [4] [.bool false] hQ h
     rw[if_neg c126]at h
     have b127:bs=false:=eq_false_of_ne_true c126
     refine S_env [(1,vs (some d) lN lC),(5,vp ra),(7,vs f madeN_2 madeC_2),(8,vi i),(165,.bool false)] (by rw[b127]) ?_
     clear b127
     refine T_fz 165<| T_kt ?_
     refine S_exit 1 (by kernel_rfl) ?_
     refine S_exitThen ?_
     refine S_exitHere ?_
     refine S_then ?_
     refine T_rz 9<| T_ed 3 [8,165] [(8,vi (IntKind.wrap .i64 (i+1)))] ?_
     exact S_round ((f,madeN_2,madeC_2,(IntKind.wrap .i64 (i+1))):(Option Addr)×Nat×Nat×Int) sk h
    by_cases c128:ah=2
    ·rw[if_pos c128]at h
     obtain⟨y,rfl,h⟩:=h
     obtain⟨d3,q130,h⟩:=h
     obtain⟨az,rfl,h⟩:=h
     obtain⟨dz,q131,h⟩:=h
     obtain⟨a0,rfl,h⟩:=h
     obtain⟨aq,q132,h⟩:=h
     obtain⟨d2,q133,h⟩:=h
     obtain⟨av,rfl,h⟩:=h
     obtain⟨d8,q134,h⟩:=h
     obtain⟨aw,rfl,h⟩:=h
     obtain⟨bg,q135,h⟩:=h
     refine S_regionG 26 (Code.ops K182) [(13,y,[vp (some az)]),(13,az,[vp (some a0)]),(13,a0,[vp aq]),(24,y,[vp (some av)]),(24,av,[vp (some aw)]),(24,aw,[vp bg])] 30 (bv 30 0) (by kernel_rfl) (by kernel_rfl) (by kernel_rfl) (by kernel_rfl) (by kernel_rfl) (show FactsAt _ _ _ from⟨⟨q130,trivial⟩,⟨q131,trivial⟩,⟨q132,trivial⟩,⟨q133,trivial⟩,⟨q134,trivial⟩,⟨q135,trivial⟩,trivial⟩) ?_
     refine T_gp 0 (some 136) (vi ah) (bv 30 1) [(1,vs (some d) lN lC),(5,vp (some y)),(7,vs f madeN_2 madeC_2),(8,vi i),(136,vi ah)]<| T_gp1 1 137 (.bool (ah==2)) (bv 30 3) [136]<| T_gp1 2 138 (.bool (ah==2)) (bv 30 7) [137] ?_
     refine G_bd 138 (beq_iff_eq.mpr c128) ?_
     refine T_gp1 3 139 (vp (some y)) (bv 30 15) []<| T_gp1 4 140 (vp (some y)) (bv 30 31) [139]<| T_gp1 5 141 (vp (some y)) (bv 30 63) [140]<| T_g1 6 142 (vp (some az)) (bv 30 127) [141] (loadN 54 (vp (some y))) (held_one 13 (λ_=>by kernel_rfl) (List.Mem.head _) (.inl (by kernel_rfl)))<| T_gp1 7 143 (vp (some az)) (bv 30 255) [142]<| T_gp1 8 144 (vp (some az)) (bv 30 511) [143]<| T_g1 9 145 (vp (some a0)) (bv 30 1023) [144] (loadN 58 (vp (some az))) (held_one 13 (λ_=>by kernel_rfl) (List.Mem.tail _ (List.Mem.head _)) (.inl (by kernel_rfl)))<| T_gp1 10 146 (vp (some a0)) (bv 30 2047) [145]<| T_gp1 11 147 (vp (some a0)) (bv 30 4095) [146] ?_
     refine T_g1 12 148 (vp aq) (bv 30 8191) [147] (loadN 61 (vp (some a0))) (held_one 13 (λ_=>by kernel_rfl) (List.Mem.tail _ (List.Mem.tail _ (List.Mem.head _))) (.inl (by kernel_rfl)))<| T_gp1 14 150 (vp (some y)) (bv 30 24575) []<| T_gp1 15 151 (vp (some y)) (bv 30 57343) [150]<| T_gp1 16 152 (vp (some y)) (bv 30 122879) [151]<| T_g1 17 153 (vp (some av)) (bv 30 253951) [152] (loadN 54 (vp (some y))) (held_one 24 (λ_=>by kernel_rfl) (List.Mem.tail _ (List.Mem.tail _ (List.Mem.tail _ (List.Mem.head _)))) (.inl (by kernel_rfl)))<| T_gp1 18 154 (vp (some av)) (bv 30 516095) [153]<| T_gp1 19 155 (vp (some av)) (bv 30 1040383) [154]<| T_g1 20 156 (vp (some aw)) (bv 30 2088959) [155] (loadN 58 (vp (some av))) (held_one 24 (λ_=>by kernel_rfl) (List.Mem.tail _ (List.Mem.tail _ (List.Mem.tail _ (List.Mem.tail _ (List.Mem.head _))))) (.inl (by kernel_rfl)))<| T_gp1 21 157 (vp (some aw)) (bv 30 4186111) [156] ?_
     refine T_gp1 22 158 (vp (some aw)) (bv 30 8380415) [157]<| T_g1 23 159 (vp bg) (bv 30 16769023) [158] (loadN 61 (vp (some aw))) (held_one 24 (λ_=>by kernel_rfl) (List.Mem.tail _ (List.Mem.tail _ (List.Mem.tail _ (List.Mem.tail _ (List.Mem.tail _ (List.Mem.head _)))))) (.inl (by kernel_rfl))) ?_
     refine G_call 13 (some 149) (bv 30 16777215) 23 #[vp aq] (by kernel_rfl) (λ_=>by kernel_rfl) h (by kernel_rfl) ?_;clear h
     rintro ez dx ⟨ax,rfl,h⟩
     obtain⟨f136,f137,f138,h⟩:=h
     refine⟨[(1,vs (some d) lN lC),(5,vp (some y)),(7,vs f madeN_2 madeC_2),(8,vi i),(138,.bool true),(149,vi ax),(159,vp bg)],pk,(show FactsAt _ _ _ from⟨trivial,trivial,trivial,f136,f137,f138,trivial⟩),?_⟩
     refine G_call 24 (some 160) (bv 30 33554431) 20 #[vp bg,vs none 0 0] (by kernel_rfl) (λ_=>by kernel_rfl) h (by kernel_rfl) ?_;clear h
     rintro eh e3 ⟨d1,am,d6,rfl,h⟩
     refine⟨[(1,vs (some d) lN lC),(5,vp (some y)),(7,vs f madeN_2 madeC_2),(8,vi i),(138,.bool true),(149,vi ax),(160,vs d1 am d6)],pk,(show FactsAt _ _ _ from⟨trivial,trivial,trivial,trivial,trivial,trivial,trivial⟩),?_⟩
     refine T_g 25 (some 161) (vi am) (bv 30 67108863) [(1,vs (some d) lN lC),(5,vp (some y)),(7,vs f madeN_2 madeC_2),(8,vi i),(138,.bool true),(149,vi ax),(161,vi am)] (pure (.value (vi am)):Sem Next) (λ_ _ _ _ _=>rfl)<| T_g1 26 162 (vi (IntKind.wrap .i64 (2*(am:Int)))) (bv 30 134217727) [161] (pure (.value (vi (IntKind.wrap .i64 (2*(am:Int))))):Sem Next) (λ_ _ _ _ _=>rfl)<| T_g1 27 163 (vi (IntKind.wrap .i64 ((IntKind.wrap .i64 (2*(am:Int)))+8))) (bv 30 268435455) [162] (pure (.value (vi (IntKind.wrap .i64 ((IntKind.wrap .i64 (2*(am:Int)))+8)))):Sem Next) (λ_ _ _ _ _=>rfl)<| T_g1 28 164 (.bool (decide (ax>=(IntKind.wrap .i64 ((IntKind.wrap .i64 (2*(am:Int)))+8))))) (bv 30 536870911) [149,163] (pure (.value (.bool (decide (ax>=(IntKind.wrap .i64 ((IntKind.wrap .i64 (2*(am:Int)))+8)))))):Sem Next) (λ_ _ _ _ _=>rfl)<| T_g1 29 165 (.bool (decide (ax>=(IntKind.wrap .i64 ((IntKind.wrap .i64 (2*(am:Int)))+8))))) (bv 30 1073741823) [138,164] (pure (.value (.bool (decide (ax>=(IntKind.wrap .i64 ((IntKind.wrap .i64 (2*(am:Int)))+8)))))):Sem Next) (λ_ _ _ _ _=>rfl) ?_
     refine G_sub [(1,vs (some d) lN lC),(5,vp (some y)),(7,vs f madeN_2 madeC_2),(8,vi i),(165,.bool (decide (ax>=(IntKind.wrap .i64 ((IntKind.wrap .i64 (2*(am:Int)))+8)))))] sk ?_
     refine G_end (by kernel_rfl) ?_
     refine S_then ?_
     exact S_meet ((decide (ax>=(IntKind.wrap .i64 ((IntKind.wrap .i64 (2*(am:Int)))+8)))):Bool) sk h
    rw[if_neg c128]at h
    refine S_regionG 26 (Code.ops K182) [] 30 (bv 30 0) (by kernel_rfl) (by kernel_rfl) (by kernel_rfl) (by kernel_rfl) (by kernel_rfl) (show FactsAt _ _ _ from trivial) ?_
    refine T_gp 0 (some 136) (vi ah) (bv 30 1) [(1,vs (some d) lN lC),(5,vp ra),(7,vs f madeN_2 madeC_2),(8,vi i),(136,vi ah)]<| T_gp1 1 137 (.bool (ah==2)) (bv 30 3) [136]<| T_gp1 2 138 (.bool (ah==2)) (bv 30 7) [137] ?_
    refine G_bd 138 (beq_eq_false_iff_ne.mpr c128) ?_
    refine T_gsd 3 (some 139) (bv 30 15) [] [(139,undef)]<| T_gsd 4 (some 140) (bv 30 31) [139] [(140,undef)]<| T_gsd 5 (some 141) (bv 30 63) [140] [(141,undef)]<| T_gsd 6 (some 142) (bv 30 127) [141] [(142,undef)]<| T_gsd 7 (some 143) (bv 30 255) [142] [(143,undef)]<| T_gsd 8 (some 144) (bv 30 511) [143] [(144,undef)]<| T_gsd 9 (some 145) (bv 30 1023) [144] [(145,undef)]<| T_gsd 10 (some 146) (bv 30 2047) [145] [(146,undef)]<| T_gsd 11 (some 147) (bv 30 4095) [146] [(147,undef)] ?_
    refine T_gsd 12 (some 148) (bv 30 8191) [147] [(148,undef)]<| T_gsd 13 (some 149) (bv 30 16383) [148] [(149,undef)]<| T_gsd 14 (some 150) (bv 30 32767) [] [(150,undef)]<| T_gsd 15 (some 151) (bv 30 65535) [150] [(151,undef)]<| T_gsd 16 (some 152) (bv 30 131071) [151] [(152,undef)]<| T_gsd 17 (some 153) (bv 30 262143) [152] [(153,undef)]<| T_gsd 18 (some 154) (bv 30 524287) [153] [(154,undef)]<| T_gsd 19 (some 155) (bv 30 1048575) [154] [(155,undef)]<| T_gsd 20 (some 156) (bv 30 2097151) [155] [(156,undef)] ?_
    refine T_gsd 21 (some 157) (bv 30 4194303) [156] [(157,undef)]<| T_gsd 22 (some 158) (bv 30 8388607) [157] [(158,undef)]<| T_gsd 23 (some 159) (bv 30 16777215) [158] [(159,undef)]<| T_gsd 24 (some 160) (bv 30 33554431) [159] [(160,undef)]<| T_gsd 25 (some 161) (bv 30 67108863) [160] [(161,undef)]<| T_gsd 26 (some 162) (bv 30 134217727) [161] [(162,undef)]<| T_gsd 27 (some 163) (bv 30 268435455) [162] [(163,undef)]<| T_gsd 28 (some 164) (bv 30 536870911) [149,163] [(164,undef)]<| T_gp1 29 165 (.bool false) (bv 30 1073741823) [138,164] ?_
    refine G_sub [(1,vs (some d) lN lC),(5,vp ra),(7,vs f madeN_2 madeC_2),(8,vi i),(165,.bool false)] sk ?_
    refine G_end (by kernel_rfl) ?_
    refine S_then ?_
    exact S_meet (false:Bool) sk h
   rw[if_neg c20]at h
   refine T_cFz 57 (decide_eq_false c20) ?_
   refine S_exit 0 (by kernel_rfl) ?_
   refine S_exitThen ?_
   refine S_exitThen ?_
   refine S_exitHere ?_
   refine S_then ?_
   refine T_srz 55<| T_nu [] ?_
   refine T_c (some 294) h ?_;clear h
   rintro eu fg ⟨cn,rfl,h⟩
   refine⟨[(294,.bool cn)],pk,?_⟩
   exact T_nr 1 [4] [.bool cn] hQ h
  intro hk
  refine T_nu [(1,vs lB lN lC),(5,vp ra),(6,vi rb),(41,.bool x)] ?_
  by_cases c6:x=true
  ·have b7:x=true:=c6
   refine N_env [(1,vs lB lN lC),(5,vp ra),(6,vi rb),(41,.bool true)] (by rw[b7]) ?_
   refine T_nd 3 [41] [(44,.bool true)] ?_
   refine N_end (by kernel_rfl) ?_
   refine S_bd 44 (b:=true) (v:=(x || (rb !=0))) (by simp only[b7,BL]) ?_
   exact hk
  have b7:x=false:=eq_false_of_ne_true c6
  refine N_env [(1,vs lB lN lC),(5,vp ra),(6,vi rb),(41,.bool false)] (by rw[b7]) ?_
  refine T_nd 3 [41] [(44,.bool (rb !=0))] ?_
  refine N_end (by kernel_rfl) ?_
  refine S_bd 44 (b:=(rb !=0)) (v:=(x || (rb !=0))) (by simp only[b7,BL]) ?_
  exact hk
 refine T_rz 2<| T_n 3 [(1,vs lB lN lC),(5,vp ra),(6,vi rb),(35,.bool (rb==0))] ?_
 by_cases c139:rb=0
 ·rw[if_pos c139]at h
  have b140:(rb==0)=true:=beq_iff_eq.mpr c139
  refine N_env [(1,vs lB lN lC),(5,vp ra),(6,vi rb),(35,.bool true)] (by rw[b140]) ?_
  clear b140
  refine T_nd 1 [] [(36,vp ra)] ?_
  rcases ra with _ | eb
  ·rw[onPtr_none]at h
   refine T_ed 2 [5,35,36] [(5,vp none),(38,.bool true)] ?_
   exact S_meet (true:Bool) sk h
  rw[onPtr_some]at h
  refine T_ed 2 [5,35,36] [(5,vp (some eb)),(38,.bool false)] ?_
  exact S_meet (false:Bool) sk h
 rw[if_neg c139]at h
 have b140:(rb==0)=false:=beq_eq_false_iff_ne.mpr c139
 refine N_env [(1,vs lB lN lC),(5,vp ra),(6,vi rb),(35,.bool false)] (by rw[b140]) ?_
 clear b140
 refine T_ed 3 [35] [(38,.bool false)] ?_
 exact S_meet (false:Bool) sk h
end morainelaw11_TraceShape

end Go.Proofs.YtdoghjgbhefphaaGreat
