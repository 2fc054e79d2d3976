/- Printed: what each function asks, and that it is sound. -/
import Derived.Test.YtibpklpgmgakcaaGreatFnsC
set_option linter.unusedSimpArgs false
set_option linter.unusedVariables false
set_option maxHeartbeats 1000000
noncomputable section
namespace Go.Proofs.YtibpklpgmgakcaaGreat
open Go
/-! moraine/morainelaw20.FramePlays -/
namespace morainelaw20_FramePlays
def K0:=Func.code Tryz.f3
def K2:=cb K0
def K4:=cb K2
def K12:=cb K4
def K14:=cb K12
def K16:=cb K14
def K24:=cb K16
def K25:=ca K24
def K26:=cb K24
def K28:=cb K25
def K29:=ca K28
def K30:=ca K29
def K50:=ca K26
def K53:=cb K50
def K54:=ca K53
def K55:=ca K54
end morainelaw20_FramePlays
def morainelaw20_FramePlays.pt(j:Int)(lB:Option Addr)(lN lC:Nat)(H:Array Obj)(R:Value->Array Obj->Prop):Prop:=
 morainelaw20_many.C lB lN lC H (λv H1=> ∃x:Bool,v=.bool x/\
 if x=true then(
 morainelaw20_awake.C H1 (λa3 H2=> ∃ap:Bool,a3=.bool ap/\
 R (.bool ap) H2))
 else
 obj_New.C j H1 (λa0 H3=> ∃(ra:Option Addr) (rb:Int),a0=.tuple #[.pointer ra,.int .i64 rb]/\
 moraineref10_New.C j H3 (λa4 H4=> ∃n:Option Addr,a4=.pointer n/\
 if rb=0 then(
 onPtr n (
 ∃J:Bool->Array Obj->Prop,(
 if(rb==0)=false then(
 morainelaw20_awake.C H4 (λba H6=> ∃an:Bool,ba=.bool an/\
 J an H6))
 else
 J false H4)/\ ∀(s4:Bool) (H5:Array Obj),J s4 H5->
 R (.bool s4) H5) (λb=>
 ∃(au:(Option Addr)->Nat->Nat->Int->Array Obj->Prop) (m31:(Option Addr)->Nat->Nat->Int->Array Obj->Nat),au none 0 0 0 H4/\ ∀(d:Option Addr) (madeN:Nat) (madeC:Nat) (i:Int) (H7:Array Obj),au d madeN madeC i H7->
 if i< (lN:Int)then(
 ∃l:Addr,lB=some l/\
 ((0:Int)<=i/\i< (lN:Int))/\
 ∃(aj o ak xN ag y ae u:Int) (af:Option Addr) (ai ah:Nat),RowAt H7 (l.add (Int.toNat i*9)) 0 [.int .i64 aj,.int .i64 o,.int .i64 ak,.int .i64 xN,.int .u64 ag,.int .i64 y,.int .u64 ae,.int .i64 u,.slice af ai ah]/\
 morainelaw20_does.C ra (some b) aj o ak xN ag y ae u af ai ah d madeN madeC H7 (λa5 H8=> ∃(p:Option Addr) (r q:Nat) (m:Bool),a5=.tuple #[.slice p r q,.bool m]/\
 if m=true then(
 (au p r q (IntKind.wrap .i64 (i+1)) H8/\m31 p r q (IntKind.wrap .i64 (i+1)) H8<m31 d madeN madeC i H7))
 else
 R (.bool false) H8))
 else
 ∃(aq:Int->Array Obj->Prop) (m56:Int->Array Obj->Nat),aq 0 H7/\ ∀(e:Int) (H9:Array Obj),aq e H9->
 if e< (madeN:Int)then(
 ∃f:Addr,d=some f/\
 ((0:Int)<=e/\e< (madeN:Int))/\
 ∃al:Int,hat H9 (f.add (Int.toNat e*1))=some (.int .u64 al)/\
 morainelaw20_tells.C ra (some b) al (Int.tmod e 4) H9 (λa8 av=> ∃s:Bool,a8=.bool s/\
 if s=true then(
 (aq (IntKind.wrap .i64 (e+1)) av/\m56 (IntKind.wrap .i64 (e+1)) av<m56 e H9))
 else
 R (.bool false) av))
 else
 morainelaw11_Alike.C ra (some b) H9 (λa2 aw=> ∃ab:Bool,a2=.bool ab/\
 if ab=true then(
 morainelaw20_awake.C aw (λa1 a9=> ∃am:Bool,a1=.bool am/\
 R (.bool am) a9))
 else
 R (.bool false) aw)))
 else
 ∃ac:Bool->Array Obj->Prop,(
 onPtr n (
 if(rb==0)=false then(
 morainelaw20_awake.C H4 (λay a7=> ∃ao:Bool,ay=.bool ao/\
 ac ao a7))
 else
 ac false H4) (λaz=>
 if(rb==0)=true then(
 morainelaw20_awake.C H4 (λax a6=> ∃z:Bool,ax=.bool z/\
 ac z a6))
 else
 ac false H4))/\ ∀(aa:Bool) (H13:Array Obj),ac aa H13->
 R (.bool aa) H13)))
namespace morainelaw20_FramePlays
set_option maxRecDepth 100000 in
theorem link{j:Int}{lB:Option Addr}{lN lC:Nat}{H:Array Obj}{R:Value->Array Obj->Prop}(h:pt j lB lN lC H R):C j lB lN lC H R:=by
 refine T_en K0 77 Tryz.func3 ?_
 intro w0 Q hQ
 unfold pt at h
 refine T_su [(0,vi j),(1,vs lB lN lC)]<| T_srz 0<| T_ed 1 [] []<| T_sz<| T_srz 1<| T_nd 1 [] [(12,vs lB lN lC)] ?_
 refine T_c (some 13) h ?_;clear h
 rintro v H1 ⟨x,rfl,h⟩
 refine T_pd [12] [(13,.bool x)]<| T_e ?_
 by_cases c1:x=true
 ·rw[if_pos c1]at h
  refine T_cTz 13 c1<| T_srz 2<| T_nu [] ?_
  refine T_c (some 14) h ?_;clear h
  rintro a3 H2 ⟨ap,rfl,h⟩
  refine⟨[(14,.bool ap)],pk,?_⟩
  exact T_nr 1 [4] [.bool ap] hQ h
 rw[if_neg c1]at h
 refine T_cFz 13 (eq_false_of_ne_true c1)<| T_kt<| T_srz 3<| T_nd 1 [13] [(16,vi j)] ?_
 refine T_c (some 17) h ?_;clear h
 rintro a0 H3 ⟨ra,rb,rfl,h⟩
 refine T_pd [16] [(17,.tuple #[vp ra,vi rb])]<| T_ed 5 [17] [(5,vp ra),(6,vi rb)]<| T_srz 4<| T_nd 1 [0] [(20,vi j)] ?_
 refine T_c (some 21) h ?_;clear h
 rintro a4 H4 ⟨n,rfl,h⟩
 refine T_pd [20] [(21,vp n)]<| T_ed 1 [21] [(7,vp n)]<| T_sz<| T_srz 5<| T_nd 3 [] [(24,.bool (rb !=0))] ?_
 by_cases c3:rb=0
 ·rw[if_pos c3]at h
  refine N_bd 24 (bne_eq_false_iff_eq.mpr c3)<| T_nd 1 [] [(25,vp n)] ?_
  rcases n with _ | b
  ·rw[onPtr_none]at h
   refine T_ne 2 [(1,vs lB lN lC),(5,vp ra),(6,vi rb),(7,vp none),(27,.bool true)]<| T_tz 27<| T_sz ?_
   obtain⟨J,h,j6⟩:=h
   refine S_join (σ:=Bool) (λs_=> [(4,.bool s_)]) (λs_ H=>J s_ H) ?_ ?_
   ·rintro s4 H5 j7
    replace h:=j6 s4 H5 j7
    refine T_su [(4,.bool s4)] ?_
    refine S_then ?_
    exact T_ret [4] [.bool s4] hQ h
   refine T_rz 6<| T_n 6 [(33,.bool ((rb==0)==false))] ?_
   by_cases c8:(rb==0)=false
   ·rw[if_pos c8]at h
    have b9:((rb==0)==false)=true:=beq_iff_eq.mpr c8
    refine N_env [(33,.bool true)] (by rw[b9]) ?_
    clear b9
    refine T_c (some 34) h ?_;clear h
    rintro ba H6 ⟨an,rfl,h⟩
    refine T_pd [] [(34,.bool an)]<| T_ne 2 [(4,.bool an)] ?_
    exact S_meet (an:Bool) sk h
   rw[if_neg c8]at h
   have b9:((rb==0)==false)=false:=beq_eq_false_iff_ne.mpr c8
   refine N_env [(33,.bool false)] (by rw[b9]) ?_
   clear b9
   refine T_ne 3 [(4,.bool false)] ?_
   exact S_meet (false:Bool) sk h
  rw[onPtr_some]at h
  refine T_ed 2 [7,24,25] [(7,vp (some b)),(27,.bool false)]<| T_fz 27<| T_kt<| T_srz 7<| T_ed 1 [6,27] [(8,vs none 0 0)]<| T_sz<| T_srz 8<| T_ed 1 [] [(9,vi 0)]<| T_bz 0 ?_
  obtain⟨au,m31,i10,i11⟩:=h
  refine S_loop (x:=K30) (σ:=(Option Addr)×Nat×Nat×Int) (λs_=> [(1,vs lB lN lC),(5,vp ra),(7,vp (some b)),(8,vs s_.1 s_.2.1 s_.2.2.1),(9,vi s_.2.2.2)]) (λs_ H=>au s_.1 s_.2.1 s_.2.2.1 s_.2.2.2 H) (λs_ H=>m31 s_.1 s_.2.1 s_.2.2.1 s_.2.2.2 H) ((none,0,0,0):(Option Addr)×Nat×Nat×Int) (by kernel_rfl) i10 sk ?_
  rintro⟨d,madeN,madeC,i⟩ H7 i12
  have h:=i11 d madeN madeC i H7 i12
  refine T_su [(1,vs lB lN lC),(5,vp ra),(7,vp (some b)),(8,vs d madeN madeC),(9,vi i)]<| T_sz<| T_srz 9<| T_ed 4 [] [(39,.bool (decide (i< (lN:Int))))] ?_
  by_cases c13:i< (lN:Int)
  ·rw[if_pos c13]at h
   refine T_cTz 39 (decide_eq_true c13)<| T_kt<| T_sz<| T_bz 1<| T_srz 11<| T_ed 1 [39] []<| T_srz 12<| T_nd 4 [] [(43,vp ra),(44,vp (some b)),(45,vs lB lN lC),(46,vi i)] ?_
   obtain⟨l,rfl,h⟩:=h
   obtain⟨q15,h⟩:=h
   refine T_xd (some 47) 22 40 9 l lN lC .i64 i Tryz.underlying22 q15.1 q15.2 [1,45,46] [(1,vs (some l) lN lC),(47,vp (some (l.add (Int.toNat i*9))))] ?_
   obtain⟨aj,o,ak,xN,ag,y,ae,u,af,ai,ah,q16,h⟩:=h
   refine T_lr 48 40 q16 [47]<| T_nd 1 [8] [(49,vs d madeN madeC)] ?_
   refine T_c (some 50) h ?_;clear h
   rintro a5 H8 ⟨p,r,q,m,rfl,h⟩
   refine T_pd [43,44,48,49] [(50,.tuple #[vs p r q,.bool m])]<| T_ed 5 [50] [(8,vs p r q),(10,.bool m)]<| T_srz 13<| T_ed 2 [10] [(54,.bool (!m))] ?_
   by_cases c17:m=true
   ·rw[if_pos c17]at h
    refine T_cFz 54 (congrArg Bool.not (c17))<| T_k ?_
    refine S_blockEnd ?_
    refine S_then ?_
    refine T_rz 10<| T_ed 3 [9,54] [(9,vi (IntKind.wrap .i64 (i+1)))] ?_
    exact S_round ((p,r,q,(IntKind.wrap .i64 (i+1))):(Option Addr)×Nat×Nat×Int) sk h
   rw[if_neg c17]at h
   exact T_cTz 54 (congrArg Bool.not (eq_false_of_ne_true c17))<| T_srz 14<| T_nr 1 [4] [.bool false] hQ h
  rw[if_neg c13]at h
  refine T_cFz 39 (decide_eq_false c13) ?_
  refine S_exit 0 (by kernel_rfl) ?_
  refine S_exitThen ?_
  refine S_exitThen ?_
  refine S_exitHere ?_
  refine S_then ?_
  refine T_sz<| T_srz 15<| T_ed 1 [1,9,39] [(11,vi 0)]<| T_bz 2 ?_
  obtain⟨aq,m56,i19,i20⟩:=h
  refine S_loop (x:=K55) (σ:=Int) (λs_=> [(5,vp ra),(7,vp (some b)),(8,vs d madeN madeC),(11,vi s_)]) (λs_ H=>aq s_ H) (λs_ H=>m56 s_ H) (0:Int) (by kernel_rfl) i19 sk ?_
  rintro e H9 i21
  have h:=i20 e H9 i21
  refine T_su [(5,vp ra),(7,vp (some b)),(8,vs d madeN madeC),(11,vi e)]<| T_sz<| T_srz 16<| T_ed 4 [] [(58,.bool (decide (e< (madeN:Int))))] ?_
  by_cases c22:e< (madeN:Int)
  ·rw[if_pos c22]at h
   refine T_cTz 58 (decide_eq_true c22)<| T_kt<| T_sz<| T_bz 3<| T_srz 18<| T_nd 4 [58] [(61,vp ra),(62,vp (some b)),(63,vs d madeN madeC),(64,vi e)] ?_
   obtain⟨f,rfl,h⟩:=h
   obtain⟨q24,h⟩:=h
   refine T_xd (some 65) 31 35 1 f madeN madeC .i64 e Tryz.underlying31 q24.1 q24.2 [8,63,64] [(8,vs (some f) madeN madeC),(65,vp (some (f.add (Int.toNat e*1))))] ?_
   obtain⟨al,q25,h⟩:=h
   refine T_l1 66 35 q25 [65]<| T_nd 2 [] [(68,vi (Int.tmod e 4))] ?_
   refine T_c (some 69) h ?_;clear h
   rintro a8 av ⟨s,rfl,h⟩
   refine T_pd [61,62,66,68] [(69,.bool s)]<| T_ed 1 [69] [(70,.bool (!s))] ?_
   by_cases c26:s=true
   ·rw[if_pos c26]at h
    refine T_cFz 70 (congrArg Bool.not (c26))<| T_k ?_
    refine S_blockEnd ?_
    refine S_then ?_
    refine T_rz 17<| T_ed 3 [11,70] [(11,vi (IntKind.wrap .i64 (e+1)))] ?_
    exact S_round ((IntKind.wrap .i64 (e+1)):Int) sk h
   rw[if_neg c26]at h
   exact T_cTz 70 (congrArg Bool.not (eq_false_of_ne_true c26))<| T_srz 19<| T_nr 1 [4] [.bool false] hQ h
  rw[if_neg c22]at h
  refine T_cFz 58 (decide_eq_false c22) ?_
  refine S_exit 2 (by kernel_rfl) ?_
  refine S_exitThen ?_
  refine S_exitThen ?_
  refine S_exitHere ?_
  refine S_then ?_
  refine T_srz 20<| T_n 2 [(71,vp ra),(72,vp (some b))] ?_
  refine T_c (some 73) h ?_;clear h
  rintro a2 aw ⟨ab,rfl,h⟩
  refine⟨[(73,.bool ab)],pk,?_⟩
  refine T_n 1 [(74,.bool ab)] ?_
  by_cases c28:ab=true
  ·rw[if_pos c28]at h
   have b29:ab=true:=c28
   refine N_env [(74,.bool true)] (by rw[b29]) ?_
   clear b29
   refine T_c (some 75) h ?_;clear h
   rintro a1 a9 ⟨am,rfl,h⟩
   exact T_pd [] [(75,.bool am)]<| T_nr 2 [4] [.bool am] hQ h
  rw[if_neg c28]at h
  have b29:ab=false:=eq_false_of_ne_true c28
  refine N_env [(74,.bool false)] (by rw[b29]) ?_
  clear b29
  exact T_nr 3 [4] [.bool false] hQ h
 rw[if_neg c3]at h
 refine N_bd 24 (bne_iff_ne.mpr c3)<| T_ne 3 [(1,vs lB lN lC),(5,vp ra),(6,vi rb),(7,vp n),(27,.bool true)]<| T_tz 27<| T_sz ?_
 obtain⟨ac,h,j31⟩:=h
 refine S_join (σ:=Bool) (λs_=> [(4,.bool s_)]) (λs_ H=>ac s_ H) ?_ ?_
 ·rintro aa H13 j32
  replace h:=j31 aa H13 j32
  refine T_su [(4,.bool aa)] ?_
  refine S_then ?_
  exact T_ret [4] [.bool aa] hQ h
 refine T_rz 6<| T_n 3 [(29,.bool (rb==0)),(30,vp n)] ?_
 rcases n with _ | az
 ·rw[onPtr_none]at h
  refine T_n 3 [(33,.bool ((rb==0)==false))] ?_
  by_cases c33:(rb==0)=false
  ·rw[if_pos c33]at h
   have b34:((rb==0)==false)=true:=beq_iff_eq.mpr c33
   refine N_env [(33,.bool true)] (by rw[b34]) ?_
   clear b34
   refine T_c (some 34) h ?_;clear h
   rintro ay a7 ⟨ao,rfl,h⟩
   refine T_pd [] [(34,.bool ao)]<| T_ne 2 [(4,.bool ao)] ?_
   exact S_meet (ao:Bool) sk h
  rw[if_neg c33]at h
  have b34:((rb==0)==false)=false:=beq_eq_false_iff_ne.mpr c33
  refine N_env [(33,.bool false)] (by rw[b34]) ?_
  clear b34
  refine T_ne 3 [(4,.bool false)] ?_
  exact S_meet (false:Bool) sk h
 rw[onPtr_some]at h
 refine T_n 3 [(33,.bool ((rb==0)==true))] ?_
 by_cases c35:(rb==0)=true
 ·rw[if_pos c35]at h
  have b36:((rb==0)==true)=true:=beq_iff_eq.mpr c35
  refine N_env [(33,.bool true)] (by rw[b36]) ?_
  clear b36
  refine T_c (some 34) h ?_;clear h
  rintro ax a6 ⟨z,rfl,h⟩
  refine T_pd [] [(34,.bool z)]<| T_ne 2 [(4,.bool z)] ?_
  exact S_meet (z:Bool) sk h
 rw[if_neg c35]at h
 have b36:((rb==0)==true)=false:=beq_eq_false_iff_ne.mpr c35
 refine N_env [(33,.bool false)] (by rw[b36]) ?_
 clear b36
 refine T_ne 3 [(4,.bool false)] ?_
 exact S_meet (false:Bool) sk h
end morainelaw20_FramePlays

end Go.Proofs.YtibpklpgmgakcaaGreat
