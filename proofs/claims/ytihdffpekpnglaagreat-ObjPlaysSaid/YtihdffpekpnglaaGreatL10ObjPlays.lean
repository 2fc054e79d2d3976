/- Printed: what each function asks, and that it is sound. -/
import Derived.Test.YtihdffpekpnglaaGreatFnsC
import Derived.Test.YtihdffpekpnglaaGreatEqa
set_option linter.unusedSimpArgs false
set_option linter.unusedVariables false
set_option maxRecDepth 100000
set_option maxHeartbeats 1000000
noncomputable section
namespace Go.Proofs.YtihdffpekpnglaaGreat
open Go
/-! moraine/morainelaw10.ObjPlays -/
namespace dJ
def K0:=Func.code Tryz.f3
def K2:=cb K0
def K4:=cb K2
def K12:=cb K4
def K14:=cb K12
def K16:=cb K14
def K24:=cb K16
def K32:=cb K24
def K33:=ca K32
def K34:=cb K32
def K36:=cb K33
def K37:=ca K36
def K38:=ca K37
def K78:=ca K34
def K79:=cb K34
def K81:=cb K78
def K82:=ca K81
def K83:=ca K82
def K85:=cb K83
def K90:=ca K85
def K92:=ca K90
def K93:=ca K92
def K99:=ca K79
def K100:=cb K79
def K101:=ca K100
def K102:=cb K100
def K103:=ca K101
def K107:=ca K102
def K110:=cb K107
def K111:=ca K110
def K112:=ca K111
def K114:=cb K112
def K119:=ca K114
def K121:=ca K119
def K122:=ca K121
end dJ
def dJ.pt(bd:Int)(lB:zY)(lN lC:Nat)(H:zW)(R:zv):Prop:=
 eK.C lB lN lC H (λv H1=> ∃x:Bool,v=.bool x/\
 if x=true then(
 cR.C H1 (λfo H2=> ∃ep:Bool,fo=.bool ep/\
 R (.bool ep) H2))
 else
 jn.C bd H1 (λfu H3=> ∃(ra:zY) (rb:Int),fu=.tuple #[.pointer ra,.int .i64 rb]/\
 eV.C bd H3 (λfq H4=> ∃ea:zY,fq=.pointer ea/\
 gk ea (
 ∃J:Bool->zW->Prop,(
 gk ra (
 if rb=1 then(
 cR.C H4 (λft H6=> ∃eo:Bool,ft=.bool eo/\
 J eo H6))
 else
 J false H4) (λfx=>
 J false H4))/\ ∀(s4:Bool) (H5:zW),J s4 H5->
 R (.bool s4) H5) (λd=>
 gk ra (
 R (.bool false) H4) (λcw=>
 if rb=0 then(
 ∃(er:zY->zY->Nat->Nat->zw) (m39:zY->zY->Nat->Nat->Int->zW->Nat),er (some cw) none 0 0 0 H4/\ ∀(hv:zY) (madeB:zY) (madeN:Nat) (madeC:Nat) (i:Int) (H7:zW),er hv madeB madeN madeC i H7->
 if i< (lN:Int)then(
 ∃ah:Addr,lB=some ah/\
 yZ i lN/\
 ∃d5:Int,hat H7 (ah.add (Int.toNat i*12))=some (.int .i64 d5)/\
 if d5=10 then(
 gt.C hv H7 (λfs H8=> ∃cz:zY,fs=.pointer cz/\
 fI.C hv 1 2 H8 (λfv H9=> ∃fd fm:Int,fv=.tuple #[.int .u64 fd,.int .i64 fm]/\
 fU.C hv H9 (λ_ e2=>
 gk cz (
 R (.bool false) e2) (λbq=>
 yZ i lN/\
 ∃(el en dz ej dx c9 xN dd:Int) (em:zY) (ek eb:Nat) (xS:ByteArray) (ci:Bool) (b4:zY) (b0 b3:Nat),aG e2 (ah.add (Int.toNat i*12)) 0 [.int .i64 el,.int .u64 en,.int .i64 dz,.int .u64 ej,.int .i64 dx,.int .i64 c9,.int .i64 xN,.int .u64 dd,.slice em ek eb,.string xS,.bool ci,.slice b4 b0 b3]/\
 dN.C (some bq) (some d) el en dz ej dx c9 xN dd em ek eb xS ci b4 b0 b3 madeB madeN madeC e2 (λfp e6=> ∃(di:zY) (df dr:Nat) (cu:Bool),fp=.tuple #[.slice di df dr,.bool cu]/\
 if cu=true then(
 (er (some bq) di df dr (zq (i+1)) e6/\m39 (some bq) di df dr (zq (i+1)) e6<m39 hv madeB madeN madeC i H7))
 else
 R (.bool false) e6))))))
 else
 yZ i lN/\
 ∃(c7 dc cr c5 cs ck dv cj:Int) (c4:zY) (db c3:Nat) (dw:ByteArray) (bp:Bool) (bk:zY) (bl bm:Nat),aG H7 (ah.add (Int.toNat i*12)) 0 [.int .i64 c7,.int .u64 dc,.int .i64 cr,.int .u64 c5,.int .i64 cs,.int .i64 ck,.int .i64 dv,.int .u64 cj,.slice c4 db c3,.string dw,.bool bp,.slice bk bl bm]/\
 dN.C hv (some d) c7 dc cr c5 cs ck dv cj c4 db c3 dw bp bk bl bm madeB madeN madeC H7 (λe9 e5=> ∃(b5:zY) (cd ce:Nat) (cv:Bool),e9=.tuple #[.slice b5 cd ce,.bool cv]/\
 if cv=true then(
 (er hv b5 cd ce (zq (i+1)) e5/\m39 hv b5 cd ce (zq (i+1)) e5<m39 hv madeB madeN madeC i H7))
 else
 R (.bool false) e5))
 else
 ∃(et:zw) (m84:Int->zW->Nat),et 0 H7/\ ∀(af:Int) (H13:zW),et af H13->
 if af< (madeN:Int)then(
 ∃u:Addr,madeB=some u/\
 yZ af madeN/\
 ∃cq:Int,hat H13 (u.add (Int.toNat af*1))=some (.int .u64 cq)/\
 yZ af madeN/\
 ∃d4:Int,hat H13 (u.add (Int.toNat af*1))=some (.int .u64 d4)/\
 eQ.C hv d4 H13 (λe7 fh=> ∃ev:Int,e7=.int .i64 ev/\aG fh (u.add (Int.toNat af*1)) 0 [.int .u64 cq]/\
 dG.C hv (some d) cq ev (Int.tmod af 5) fh (λfj e3=> ∃ch:Bool,fj=.bool ch/\
 if ch=true then(
 (et (zq (af+1)) e3/\m84 (zq (af+1)) e3<m84 af H13))
 else
 R (.bool false) e3)))
 else
 ∃f:Addr,hv=some f/\
 ∃e1:zY,hat H13 f=some (.pointer e1)/\
 ∃b6:Addr,e1=some b6/\
 ∃ex:zY,hat H13 b6=some (.pointer ex)/\
 ∃cg:Addr,ex=some cg/\
 ∃bo:zY,hat H13 cg=some (.pointer bo)/\
 ∃e0:zY,hat H13 d=some (.pointer e0)/\
 ∃bt:Addr,e0=some bt/\
 ∃ez:zY,hat H13 bt=some (.pointer ez)/\
 ∃bw:Addr,ez=some bw/\
 ∃da:zY,hat H13 bw=some (.pointer da)/\
 gu.C bo none 0 0 H13 (λfi eu=> ∃(xB:zY) (e xC:Nat),fi=.slice xB e xC/\aG eu d 0 [.pointer (some bt)]/\aG eu bt 0 [.pointer (some bw)]/\aG eu bw 0 [.pointer da]/\
 cL.C da none 0 0 eu (λfc es=> ∃(n:zY) (j m:Nat),fc=.slice n j m/\
 if(e:Int)=(j:Int)then(
 ∃bg:Int,hat es (d.add 1)=some (.int .u64 bg)/\
 ∃dn:zY,hat es f=some (.pointer dn)/\
 ∃dg:zY,hat es d=some (.pointer dg)/\
 ga.C (some f) es (λe8 dj=> ∃bz:Int,e8=.int .u64 bz/\aG dj (d.add 1) 0 [.int .u64 bg]/\aG dj f 0 [.pointer dn]/\aG dj d 0 [.pointer dg]/\
 if bz=bg then(
 ∃cp:Addr,dn=some cp/\
 ∃d3:zY,hat dj cp=some (.pointer d3)/\
 ∃cm:Addr,d3=some cm/\
 ∃bb:zY,hat dj cm=some (.pointer bb)/\
 ∃cl:Addr,dg=some cl/\
 ∃d2:zY,hat dj cl=some (.pointer d2)/\
 ∃co:Addr,d2=some co/\
 ∃d0:zY,hat dj co=some (.pointer d0)/\
 ∃cn:Addr,d0=some cn/\
 ∃bc:Int,hat dj cn=some (.int .i64 bc)/\
 gQ.C bb dj (λfg dh=> ∃b8:Int,fg=.int .i64 b8/\aG dh cn 0 [.int .i64 bc]/\aG dh co 0 [.pointer d0]/\aG dh cl 0 [.pointer d2]/\aG dh cm 0 [.pointer bb]/\aG dh cp 0 [.pointer d3]/\aG dh (d.add 1) 0 [.int .u64 bg]/\aG dh f 0 [.pointer dn]/\aG dh d 0 [.pointer dg]/\
 if b8=(zq (bc-(j:Int)))then(
 ∃(d7:zw) (m113:Int->zW->Nat),d7 0 dh/\ ∀(l:Int) (H20:zW),d7 l H20->
 if l< (e:Int)then(
 ∃ew:zY,hat H20 f=some (.pointer ew)/\
 ∃bx:Addr,ew=some bx/\
 ∃ey:zY,hat H20 bx=some (.pointer ey)/\
 ∃bu:Addr,ey=some bu/\
 ∃b1:zY,hat H20 bu=some (.pointer b1)/\
 ∃o:Addr,xB=some o/\
 yZ l e/\
 ∃ct:Int,hat H20 (o.add (Int.toNat l*1))=some (.int .i64 ct)/\
 (
 fF.C b1 ct H20 (λfe fk=> ∃(bi ba bh an ao am ap:Int) (a5:Bool),fe=.tuple #[.agg #[.int .i64 bi,.int .i64 ba,.int .i64 bh,.int .i64 an,.int .i64 ao,.int .i64 am,.int .i64 ap],.bool a5]/\
 ∀(b:Nat) (H22:zW),b=fk.size->H22=fk.push (.cells #[.int .i64 0,.int .i64 0,.int .i64 0,.int .i64 0,.int .i64 0,.int .i64 0,.int .i64 0] 79)->
 (aJ H22 (ad b) 0 7)/\ ∀c2,c2=aP H22 (ad b) [.int .i64 bi,.int .i64 ba,.int .i64 bh,.int .i64 an,.int .i64 ao,.int .i64 am,.int .i64 ap] 0->
 if a5=true then(
 ∃a4 ae a2 aa y ab z:Int,aG c2 (ad b) 0 [.int .i64 a4,.int .i64 ae,.int .i64 a2,.int .i64 aa,.int .i64 y,.int .i64 ab,.int .i64 z]/\
 ∃ee:zY,hat c2 d=some (.pointer ee)/\
 ∃de:Addr,ee=some de/\
 ∃ec:zY,hat c2 de=some (.pointer ec)/\
 ∃dq:Addr,ec=some dq/\
 ∃ef:zY,hat c2 dq=some (.pointer ef)/\
 ∃dm:Addr,ef=some dm/\
 ∃(d8:zY) (dt d1:Nat),hat c2 (dm.add 1)=some (.slice d8 dt d1)/\
 ∃cy:Addr,d8=some cy/\
 yZ l dt/\
 ∃be a9 cc ay az au a0:Int,aG c2 ((cy.add (Int.toNat l*9)).add 1) 0 [.int .i64 be,.int .i64 a9,.int .i64 cc,.int .i64 ay,.int .i64 az,.int .i64 au,.int .i64 a0]/\
 (True)/\
 if a4=be/\ae=a9/\a2=cc/\aa=ay/\y=az/\ab=au/\z=a0 then(
 (d7 (zq (l+1)) c2/\m113 (zq (l+1)) c2<m113 l H20))
 else
 R (.bool false) c2)
 else
 R (.bool false) c2))/\(
 ∀(br:Nat) (H24:zW),br=H20.size->H24=H20.push (.cells #[.int .i64 0,.int .i64 0,.int .i64 0,.int .i64 0,.int .i64 0,.int .i64 0,.int .i64 0] 79)->aG H24 f 0 [.pointer (some bx)]/\aG H24 bx 0 [.pointer (some bu)]/\aG H24 bu 0 [.pointer b1]/\aG H24 (o.add (Int.toNat l*1)) 0 [.int .i64 ct]/\
 fF.C b1 ct H24 (λff e4=> ∃(a7 a1 bj ak ai aj al:Int) (a6:Bool),ff=.tuple #[.agg #[.int .i64 a7,.int .i64 a1,.int .i64 bj,.int .i64 ak,.int .i64 ai,.int .i64 aj,.int .i64 al],.bool a6]/\
 (aJ e4 (ad br) 0 7)/\ ∀c0,c0=aP e4 (ad br) [.int .i64 a7,.int .i64 a1,.int .i64 bj,.int .i64 ak,.int .i64 ai,.int .i64 aj,.int .i64 al] 0->
 if a6=true then(
 ∃ag ac a3 s q p r:Int,aG c0 (ad br) 0 [.int .i64 ag,.int .i64 ac,.int .i64 a3,.int .i64 s,.int .i64 q,.int .i64 p,.int .i64 r]/\
 ∃ei:zY,hat c0 d=some (.pointer ei)/\
 ∃du:Addr,ei=some du/\
 ∃eh:zY,hat c0 du=some (.pointer eh)/\
 ∃dk:Addr,eh=some dk/\
 ∃eg:zY,hat c0 dk=some (.pointer eg)/\
 ∃dl:Addr,eg=some dl/\
 ∃(d9:zY) (dp dy:Nat),hat c0 (dl.add 1)=some (.slice d9 dp dy)/\
 ∃cx:Addr,d9=some cx/\
 yZ l dp/\
 ∃bf a8 bn aq aw av ax:Int,aG c0 ((cx.add (Int.toNat l*9)).add 1) 0 [.int .i64 bf,.int .i64 a8,.int .i64 bn,.int .i64 aq,.int .i64 aw,.int .i64 av,.int .i64 ax]/\
 (True)/\
 if ag=bf/\ac=a8/\a3=bn/\s=aq/\q=aw/\p=av/\r=ax then(
 (d7 (zq (l+1)) c0/\m113 (zq (l+1)) c0<m113 l H20))
 else
 R (.bool false) c0)
 else
 R (.bool false) c0)))
 else
 cR.C H20 (λfl fw=> ∃d6:Bool,fl=.bool d6/\
 R (.bool d6) fw))
 else
 R (.bool false) dh))
 else
 R (.bool false) dj))
 else
 R (.bool false) es)))
 else
 R (.bool false) H4)))))
namespace dJ
theorem link{bd:Int}{lB:zY}{lN lC:Nat}{H:zW}{R:zv}(h:pt bd lB lN lC H R):C bd lB lN lC H R:=by
 refine T_en K0 215 Tryz.func3 ?_
 intro w0 Q hQ
 unfold pt zq at h
 refine T_su [(0,vi bd),(1,vs lB lN lC)]<| ar 0<| T_ed 1 [] []<| T_sz<| ar 1<| T_nd 1 [] [(18,vs lB lN lC)]<| T_c (some 19) h ?_;clear h
 rintro v H1 ⟨x,rfl,h⟩
 refine T_pd [18] [(19,.bool x)]<| T_e ?_
 by_cases c1:x=true
 ·rw[if_pos c1]at h
  refine aH 19 c1<| ar 2<| T_nu []<| T_c (some 20) h ?_;clear h
  rintro fo H2 ⟨ep,rfl,h⟩
  refine⟨[(20,.bool ep)],pk,?_⟩
  exact T_nr 1 [4] [.bool ep] hQ h
 rw[if_neg c1]at h
 refine aI 19 (zZ c1)<| T_kt<| ar 3<| T_nd 1 [19] [(22,vi bd)]<| T_c (some 23) h ?_;clear h
 rintro fu H3 ⟨ra,rb,rfl,h⟩
 refine T_pd [22] [(23,.tuple #[vp ra,vi rb])]<| T_ed 5 [23] [(5,vp ra),(6,vi rb)]<| ar 4<| T_nd 1 [0] [(26,vi bd)]<| T_c (some 27) h ?_;clear h
 rintro fq H4 ⟨ea,rfl,h⟩
 refine T_pd [26] [(27,vp ea)]<| T_ed 1 [27] [(7,vp ea)]<| T_sz<| ar 5<| T_nd 1 [] [(28,vp ea)] ?_
 rcases ea with _ | d
 ·rw[onPtr_none]at h
  refine T_ne 1 [(1,vs lB lN lC),(5,vp ra),(6,vi rb),(7,vp none),(29,.bool true)]<| T_tz 29<| T_sz ?_
  obtain⟨J,h,j4⟩:=h
  refine kb (σ:=Bool) (λs_=> [(4,.bool s_)]) (λs_ H=>J s_ H) ?_ ?_
  ·rintro s4 H5 j5
   replace h:=j4 s4 H5 j5
   exact T_su [(4,.bool s4)]<| aE<| ie [4] [.bool s4] hQ h
  refine T_rz 6<| T_n 1 [(6,vi rb),(30,vp ra)] ?_
  rcases ra with _ | fx
  ·rw[onPtr_none]at h
   refine T_n 6 [(36,.bool (rb==1))] ?_
   by_cases c6:rb=1
   ·rw[if_pos c6]at h
    have b7:(rb==1)=true:=zV c6
    refine bV [(36,.bool true)] (by rw[b7]) ?_
    clear b7
    refine T_c (some 37) h ?_;clear h
    rintro ft H6 ⟨eo,rfl,h⟩
    exact T_pd [] [(37,.bool eo)]<| T_ne 2 [(4,.bool eo)]<| fH (eo:Bool) sk h
   rw[if_neg c6]at h
   have b7:(rb==1)=false:=zK c6
   refine bV [(36,.bool false)] (by rw[b7]) ?_
   clear b7
   exact T_ne 3 [(4,.bool false)]<| fH (false:Bool) sk h
  rw[onPtr_some]at h
  exact T_ne 9 [(4,.bool false)]<| fH (false:Bool) sk h
 rw[onPtr_some]at h
 refine T_ed 1 [7,28] [(7,vp (some d)),(29,.bool false)]<| T_fz 29<| T_kt<| T_sz<| ar 7<| T_nd 1 [29] [(39,vp ra)] ?_
 rcases ra with _ | cw
 ·rw[onPtr_none]at h
  exact T_ed 5 [5,6,39] [(5,vp none),(44,.bool true)]<| T_tz 44<| ar 8<| T_nr 1 [4] [.bool false] hQ h
 rw[onPtr_some]at h
 refine T_ed 5 [5,6,39] [(5,vp (some cw)),(44,.bool (rb !=0))] ?_
 by_cases c8:rb=0
 ·rw[if_pos c8]at h
  refine S_bd 44 (bne_eq_false_iff_eq.mpr c8)<| T_fz 44<| T_kt<| ar 9<| T_ed 1 [44] [(8,vs none 0 0)]<| T_sz<| ar 10<| T_ed 1 [] [(9,vi 0)]<| T_bz 0 ?_
  obtain⟨er,m39,i10,i11⟩:=h
  refine dS (x:=K38) (σ:=zY×zY×Nat×Nat×Int) (λs_=> [(1,vs lB lN lC),(5,vp s_.1),(7,vp (some d)),(8,vs s_.2.1 s_.2.2.1 s_.2.2.2.1),(9,vi s_.2.2.2.2)]) (λs_ H=>er s_.1 s_.2.1 s_.2.2.1 s_.2.2.2.1 s_.2.2.2.2 H) (λs_ H=>m39 s_.1 s_.2.1 s_.2.2.1 s_.2.2.2.1 s_.2.2.2.2 H) (((some cw),none,0,0,0):zY×zY×Nat×Nat×Int) (by kernel_rfl) i10 sk ?_
  rintro⟨hv,madeB,madeN,madeC,i⟩ H7 i12
  have h:=i11 hv madeB madeN madeC i H7 i12
  refine T_su [(1,vs lB lN lC),(5,vp hv),(7,vp (some d)),(8,vs madeB madeN madeC),(9,vi i)]<| T_sz<| ar 11<| T_ed 4 [] [(48,.bool (decide (i< (lN:Int))))] ?_
  by_cases c13:i< (lN:Int)
  ·rw[if_pos c13]at h
   refine aH 48 (zQ c13)<| T_kt<| T_sz<| T_bz 1<| T_sz<| ar 13<| T_nd 2 [48] [(51,vs lB lN lC),(52,vi i)] ?_
   obtain⟨ah,rfl,q15,h⟩:=h
   refine T_xd (some 53) 22 41 12 ah lN lC .i64 i Tryz.underlying22 q15.1 q15.2 [1,51,52] [(1,vs (some ah) lN lC),(53,vp (some (ah.add (Int.toNat i*12))))]<| T_nd 1 [53] [(54,vp (some (ah.add (Int.toNat i*12))))] ?_
   obtain⟨d5,q16,h⟩:=h
   refine T_l1 55 3 q16 [54]<| T_ed 1 [55] [(56,.bool (d5==10))] ?_
   by_cases c17:d5=10
   ·rw[if_pos c17]at h
    refine aH 56 (zV c17)<| ar 14<| T_nd 1 [56] [(57,vp hv)]<| T_c (some 58) h ?_;clear h
    rintro fs H8 ⟨cz,rfl,h⟩
    refine T_pd [57] [(58,vp cz)]<| T_ed 1 [58] [(10,vp cz)]<| ar 15<| T_nd 1 [] [(59,vp hv)]<| T_c (some 60) h ?_;clear h
    rintro fv H9 ⟨fd,fm,rfl,h⟩
    refine T_pd [59] []<| T_e<| ar 16<| T_nd 1 [5] [(61,vp hv)]<| T_c (some 62) h ?_;clear h
    intro v_8 e2 h
    refine T_pd [61] []<| T_e<| ar 17<| T_ed 2 [10] [(5,vp cz)]<| ar 18<| T_nd 1 [] [(64,vp cz)] ?_
    rcases cz with _ | bq
    ·rw[onPtr_none]at h
     exact T_ed 1 [5,64] [(5,vp none),(65,.bool true)]<| T_tz 65<| ar 19<| T_nr 1 [4] [.bool false] hQ h
    rw[onPtr_some]at h
    refine T_ed 1 [5,64] [(5,vp (some bq)),(65,.bool false)]<| T_fz 65<| T_kt<| ar 20<| T_ed 1 [65] []<| ar 21<| T_nd 4 [] [(67,vp (some bq)),(68,vp (some d)),(69,vs (some ah) lN lC),(70,vi i)] ?_
    obtain⟨q19,h⟩:=h
    refine T_xd (some 71) 22 41 12 ah lN lC .i64 i Tryz.underlying22 q19.1 q19.2 [69,70] [(71,vp (some (ah.add (Int.toNat i*12))))] ?_
    obtain⟨el,en,dz,ej,dx,c9,xN,dd,em,ek,eb,xS,ci,b4,b0,b3,q20,h⟩:=h
    refine T_lr 72 41 q20 [71]<| T_nd 1 [8] [(73,vs madeB madeN madeC)]<| T_c (some 74) h ?_;clear h
    rintro fp e6 ⟨di,df,dr,cu,rfl,h⟩
    refine T_pd [67,68,72,73] [(74,.tuple #[vs di df dr,.bool cu])]<| T_ed 5 [74] [(8,vs di df dr),(11,.bool cu)]<| ar 22<| T_ed 2 [11] [(78,.bool (!cu))] ?_
    by_cases c21:cu=true
    ·rw[if_pos c21]at h
     exact aI 78 (congrArg Bool.not (c21))<| T_k<| aL<| aE<| T_rz 12<| T_ed 3 [9,78] [(9,vi (zq (i+1)))]<| bG (((some bq),di,df,dr,(zq (i+1))):zY×zY×Nat×Nat×Int) sk h
    rw[if_neg c21]at h
    exact aH 78 (congrArg Bool.not (zZ c21))<| ar 23<| T_nr 1 [4] [.bool false] hQ h
   rw[if_neg c17]at h
   refine aI 56 (zK c17)<| T_kt<| ar 20<| T_ed 1 [56] []<| ar 21<| T_nd 4 [] [(67,vp hv),(68,vp (some d)),(69,vs (some ah) lN lC),(70,vi i)] ?_
   obtain⟨q23,h⟩:=h
   refine T_xd (some 71) 22 41 12 ah lN lC .i64 i Tryz.underlying22 q23.1 q23.2 [69,70] [(71,vp (some (ah.add (Int.toNat i*12))))] ?_
   obtain⟨c7,dc,cr,c5,cs,ck,dv,cj,c4,db,c3,dw,bp,bk,bl,bm,q24,h⟩:=h
   refine T_lr 72 41 q24 [71]<| T_nd 1 [8] [(73,vs madeB madeN madeC)]<| T_c (some 74) h ?_;clear h
   rintro e9 e5 ⟨b5,cd,ce,cv,rfl,h⟩
   refine T_pd [67,68,72,73] [(74,.tuple #[vs b5 cd ce,.bool cv])]<| T_ed 5 [74] [(8,vs b5 cd ce),(11,.bool cv)]<| ar 22<| T_ed 2 [11] [(78,.bool (!cv))] ?_
   by_cases c25:cv=true
   ·rw[if_pos c25]at h
    exact aI 78 (congrArg Bool.not (c25))<| T_k<| aL<| aE<| T_rz 12<| T_ed 3 [9,78] [(9,vi (zq (i+1)))]<| bG ((hv,b5,cd,ce,(zq (i+1))):zY×zY×Nat×Nat×Int) sk h
   rw[if_neg c25]at h
   exact aH 78 (congrArg Bool.not (zZ c25))<| ar 23<| T_nr 1 [4] [.bool false] hQ h
  rw[if_neg c13]at h
  refine aI 48 (zJ c13)<| zk 0<| aD<| aD<| aR<| aE<| T_sz<| ar 24<| T_ed 1 [1,9,48] [(12,vi 0)]<| T_bz 2 ?_
  obtain⟨et,m84,i27,i28⟩:=h
  refine dS (x:=K83) (σ:=Int) (λs_=> [(5,vp hv),(7,vp (some d)),(8,vs madeB madeN madeC),(12,vi s_)]) (λs_ H=>et s_ H) (λs_ H=>m84 s_ H) (0:Int) (by kernel_rfl) i27 sk ?_
  rintro af H13 i29
  have h:=i28 af H13 i29
  refine T_su [(5,vp hv),(7,vp (some d)),(8,vs madeB madeN madeC),(12,vi af)]<| T_sz<| ar 25<| T_ed 4 [] [(82,.bool (decide (af< (madeN:Int))))] ?_
  by_cases c30:af< (madeN:Int)
  ·rw[if_pos c30]at h
   refine aH 82 (zQ c30)<| T_kt<| T_sz<| T_bz 3<| T_sz ?_
   obtain⟨u,rfl,q32,cq,q33,q34,d4,q35,h⟩:=h
   refine yq 27 (Code.ops K93) [(14,(u.add (Int.toNat af*1)),[vu cq]),(11,(u.add (Int.toNat af*1)),[vu d4])] 16 (bv 16 0) (show aK _ _ _ from⟨⟨q33,trivial⟩,⟨q35,trivial⟩,trivial⟩)<| T_gp 0 (some 85) (vp hv) (bv 16 1) [(5,vp hv),(7,vp (some d)),(8,vs (some u) madeN madeC),(12,vi af),(85,vp hv)]<| aF 1 86 (vp (some d)) (bv 16 3) []<| aF 2 87 (vs (some u) madeN madeC) (bv 16 7) []<| aF 3 88 (vi af) (bv 16 15) []<| T_g1 4 89 (vp (some (u.add (Int.toNat af*1)))) (bv 16 31) [87,88] (bD 31 (vs (some u) madeN madeC) (vi af)) (λ_ w _ _ _=>bR (P:=Tryz.prog) (t:=31) (elem:=33) (sz:=1) (a:=u) (len:=madeN) (cap:=madeC) (k:=.i64) (i:=af) Tryz.underlying31 (λ_=>by kernel_rfl) q32.1 q32.2 w)<| T_g1 5 90 (vu cq) (bv 16 63) [89] (aT 33 (vp (some (u.add (Int.toNat af*1))))) (yY 14 yX)<| aF 6 91 (vp hv) (bv 16 127) []<| aF 7 92 (vs (some u) madeN madeC) (bv 16 255) []<| aF 8 93 (vi af) (bv 16 511) []<| T_g1 9 94 (vp (some (u.add (Int.toNat af*1)))) (bv 16 1023) [92,93] (bD 31 (vs (some u) madeN madeC) (vi af)) (λ_ w _ _ _=>bR (P:=Tryz.prog) (t:=31) (elem:=33) (sz:=1) (a:=u) (len:=madeN) (cap:=madeC) (k:=.i64) (i:=af) Tryz.underlying31 (λ_=>by kernel_rfl) q34.1 q34.2 w)<| T_g1 10 95 (vu d4) (bv 16 2047) [94] (aT 33 (vp (some (u.add (Int.toNat af*1))))) (yY 11 yQ)<| aF 12 97 (vi af) (bv 16 6143) []<| aF 13 98 (vi (Int.tmod af 5)) (bv 16 14335) [97]<| yx 11 (some 96) (bv 16 16383) 13 #[vp hv,vu d4] h ?_;clear h
   rintro e7 fh ⟨ev,rfl,f36,h⟩
   refine⟨[(5,vp hv),(7,vp (some d)),(8,vs (some u) madeN madeC),(12,vi af),(85,vp hv),(86,vp (some d)),(90,vu cq),(96,vi ev),(98,vi (Int.tmod af 5))],pk,(show aK _ _ _ from⟨f36,trivial,trivial⟩),?_⟩
   refine yx 14 (some 99) (bv 16 32767) 12 #[vp hv,vp (some d),vu cq,vi ev,vi (Int.tmod af 5)] h ?_;clear h
   rintro fj e3 ⟨ch,rfl,h⟩
   refine⟨[(5,vp hv),(7,vp (some d)),(8,vs (some u) madeN madeC),(12,vi af),(99,.bool ch)],pk,(show aK _ _ _ from⟨trivial,trivial,trivial⟩),?_⟩
   refine T_g 15 (some 100) (.bool (!ch)) (bv 16 65535) [(5,vp hv),(7,vp (some d)),(8,vs (some u) madeN madeC),(12,vi af),(100,.bool (!ch))] (pure (.value (.bool (!ch))):Sem Next) (λ_ _ _ _ _=>rfl)<| eI [(5,vp hv),(7,vp (some d)),(8,vs (some u) madeN madeC),(12,vi af),(100,.bool (!ch))] sk<| yz<| aE ?_
   by_cases c37:ch=true
   ·rw[if_pos c37]at h
    exact aI 100 (congrArg Bool.not (c37))<| T_k<| aL<| aE<| T_rz 26<| T_ne 3 [(5,vp hv),(7,vp (some d)),(8,vs (some u) madeN madeC),(12,vi (zq (af+1)))]<| bG ((zq (af+1)):Int) sk h
   rw[if_neg c37]at h
   exact aH 100 (congrArg Bool.not (zZ c37))<| ar 28<| T_nr 1 [4] [.bool false] hQ h
  rw[if_neg c30]at h
  refine aI 82 (zJ c30)<| zk 2<| aD<| aD<| aR<| aE<| T_sz ?_
  obtain⟨f,rfl,e1,q39,b6,rfl,ex,q40,cg,rfl,bo,q41,e0,q42,bt,rfl,ez,q43,bw,rfl,da,q44,h⟩:=h
  refine yq 29 (Code.ops K99) [(10,f,[vp (some b6)]),(10,b6,[vp (some cg)]),(10,cg,[vp bo]),(21,d,[vp (some bt)]),(21,bt,[vp (some bw)]),(21,bw,[vp da])] 24 (bv 24 0) (show aK _ _ _ from⟨⟨q39,trivial⟩,⟨q40,trivial⟩,⟨q41,trivial⟩,⟨q42,trivial⟩,⟨q43,trivial⟩,⟨q44,trivial⟩,trivial⟩)<| T_gp 0 (some 101) (vp (some f)) (bv 24 1) [(5,vp (some f)),(7,vp (some d)),(101,vp (some f))]<| aF 1 102 (vp (some f)) (bv 24 3) [101]<| aF 2 103 (vp (some f)) (bv 24 7) [102]<| T_g1 3 104 (vp (some b6)) (bv 24 15) [103] (aT 51 (vp (some f))) (yY 10 yX)<| aF 4 105 (vp (some b6)) (bv 24 31) [104]<| aF 5 106 (vp (some b6)) (bv 24 63) [105]<| T_g1 6 107 (vp (some cg)) (bv 24 127) [106] (aT 55 (vp (some b6))) (yY 10 yQ)<| aF 7 108 (vp (some cg)) (bv 24 255) [107]<| aF 8 109 (vp (some cg)) (bv 24 511) [108]<| T_g1 9 110 (vp bo) (bv 24 1023) [109] (aT 58 (vp (some cg))) (yY 10 yJ)<| aF 11 112 (vp (some d)) (bv 24 3071) []<| aF 12 113 (vp (some d)) (bv 24 7167) [112]<| aF 13 114 (vp (some d)) (bv 24 15359) [113]<| T_g1 14 115 (vp (some bt)) (bv 24 31743) [114] (aT 69 (vp (some d))) (yY 21 yK)<| aF 15 116 (vp (some bt)) (bv 24 64511) [115]<| aF 16 117 (vp (some bt)) (bv 24 130047) [116]<| T_g1 17 118 (vp (some bw)) (bv 24 261119) [117] (aT 66 (vp (some bt))) (yY 21 yV)<| aF 18 119 (vp (some bw)) (bv 24 523263) [118]<| aF 19 120 (vp (some bw)) (bv 24 1047551) [119]<| T_g1 20 121 (vp da) (bv 24 2096127) [120] (aT 63 (vp (some bw))) (yY 21 yW)<| yx 10 (some 111) (bv 24 2097151) 14 #[vp bo,vs none 0 0] h ?_;clear h
  rintro fi eu ⟨xB,e,xC,rfl,f45,f46,f47,h⟩
  refine⟨[(5,vp (some f)),(7,vp (some d)),(111,vs xB e xC),(121,vp da)],pk,(show aK _ _ _ from⟨trivial,trivial,trivial,f45,f46,f47,trivial⟩),?_⟩
  refine yx 21 (some 122) (bv 24 4194303) 15 #[vp da,vs none 0 0] h ?_;clear h
  rintro fc es ⟨n,j,m,rfl,h⟩
  refine⟨[(5,vp (some f)),(7,vp (some d)),(111,vs xB e xC),(122,vs n j m)],pk,(show aK _ _ _ from⟨trivial,trivial,trivial,trivial,trivial,trivial,trivial⟩),?_⟩
  refine T_g 22 (some 13) (vs xB e xC) (bv 24 8388607) [(5,vp (some f)),(7,vp (some d)),(13,vs xB e xC),(122,vs n j m)] (pure (.value (vs xB e xC)):Sem Next) (λ_ _ _ _ _=>rfl)<| T_g1 23 14 (vs n j m) (bv 24 16777215) [122] (pure (.value (vs n j m)):Sem Next) (λ_ _ _ _ _=>rfl)<| eI [(5,vp (some f)),(7,vp (some d)),(13,vs xB e xC),(14,vs n j m)] sk<| yz<| aE<| T_sz<| T_sz ?_
  by_cases c48:(e:Int)=(j:Int)
  ·rw[if_pos c48]at h
   obtain⟨bg,q50,dn,q51,dg,q52,h⟩:=h
   refine yq 30 (Code.ops K103) [(44,(d.add 1),[vu bg]),(44,f,[vp dn]),(44,d,[vp dg])] 44 (bv 44 0) (show aK _ _ _ from⟨⟨q50,trivial⟩,⟨q51,trivial⟩,⟨q52,trivial⟩,trivial⟩)<| T_gp 0 (some 123) (vs xB e xC) (bv 44 1) [(5,vp (some f)),(7,vp (some d)),(13,vs xB e xC),(14,vs n j m),(123,vs xB e xC)]<| aF 1 124 (vi e) (bv 44 3) [123]<| aF 2 125 (vs n j m) (bv 44 7) []<| aF 3 126 (vi j) (bv 44 15) [125]<| aF 4 127 (.bool ((e:Int) !=(j:Int))) (bv 44 31) [124,126]<| aF 5 128 (.bool ((e:Int) !=(j:Int))) (bv 44 63) [127]<| G_bd 128 (bne_eq_false_iff_eq.mpr c48)<| aF 6 129 (vp (some f)) (bv 44 127) []<| aF 8 131 (vp (some d)) (bv 44 383) []<| aF 9 132 (vp (some d)) (bv 44 895) [131]<| aF 10 133 (vp (some (d.add 1))) (bv 44 1919) [132]<| T_g1 11 134 (vu bg) (bv 44 3967) [133] (aT 32 (vp (some (d.add 1)))) (dI 44 (λ_=>by kernel_rfl) yX (.inr (by kernel_rfl)))<| yx 7 (some 130) (bv 44 4095) 16 #[vp (some f)] h ?_;clear h
   rintro e8 dj ⟨bz,rfl,f53,f54,f55,h⟩
   refine⟨[(5,vp (some f)),(7,vp (some d)),(13,vs xB e xC),(14,vs n j m),(128,.bool false),(130,vu bz),(134,vu bg)],pk,(show aK _ _ _ from⟨f53,f54,f55,trivial⟩),?_⟩
   refine T_g 12 (some 135) (.bool (bz !=bg)) (bv 44 8191) [(5,vp (some f)),(7,vp (some d)),(13,vs xB e xC),(14,vs n j m),(128,.bool false),(135,.bool (bz !=bg))] (pure (.value (.bool (bz !=bg))):Sem Next) (λ_ _ _ _ _=>rfl)<| T_g1 13 136 (.bool (bz !=bg)) (bv 44 16383) [128,135] (pure (.value (.bool (bz !=bg))):Sem Next) (λ_ _ _ _ _=>rfl)<| T_g1 14 137 (.bool (bz !=bg)) (bv 44 32767) [136] (pure (.value (.bool (bz !=bg))):Sem Next) (λ_ _ _ _ _=>rfl) ?_
   by_cases c56:bz=bg
   ·rw[if_pos c56]at h
    refine G_bd 137 (bne_eq_false_iff_eq.mpr c56) ?_
    refine T_g1 15 138 (vp (some f)) (bv 44 65535) [] (pure (.value (vp (some f))):Sem Next) (λ_ _ _ _ _=>rfl)<| T_g1 16 139 (vp (some f)) (bv 44 131071) [138] (pure (.value (vp (some f))):Sem Next) (λ_ _ _ _ _=>rfl)<| T_g1 17 140 (vp (some f)) (bv 44 262143) [139] (pure (.value (vp (some f))):Sem Next) (λ_ _ _ _ _=>rfl)<| T_g1 18 141 (vp dn) (bv 44 524287) [140] (aT 51 (vp (some f))) (dI 44 (λ_=>by kernel_rfl) yQ (.inr (by kernel_rfl))) ?_
    obtain⟨cp,rfl,h⟩:=h
    refine T_g1 19 142 (vp (some cp)) (bv 44 1048575) [141] (pure (.value (vp (some cp))):Sem Next) (λ_ _ _ _ _=>rfl)<| T_g1 20 143 (vp (some cp)) (bv 44 2097151) [142] (pure (.value (vp (some cp))):Sem Next) (λ_ _ _ _ _=>rfl) ?_
    obtain⟨d3,q58,h⟩:=h
    refine mK (44,cp,[vp d3]) ⟨q58,trivial⟩ ?_
    refine T_g1 21 144 (vp d3) (bv 44 4194303) [143] (aT 55 (vp (some cp))) (dI 44 (λ_=>by kernel_rfl) yX (.inr (by kernel_rfl))) ?_
    obtain⟨cm,rfl,h⟩:=h
    refine T_g1 22 145 (vp (some cm)) (bv 44 8388607) [144] (pure (.value (vp (some cm))):Sem Next) (λ_ _ _ _ _=>rfl)<| T_g1 23 146 (vp (some cm)) (bv 44 16777215) [145] (pure (.value (vp (some cm))):Sem Next) (λ_ _ _ _ _=>rfl) ?_
    obtain⟨bb,q59,h⟩:=h
    refine mK (44,cm,[vp bb]) ⟨q59,trivial⟩ ?_
    refine T_g1 24 147 (vp bb) (bv 44 33554431) [146] (aT 58 (vp (some cm))) (dI 44 (λ_=>by kernel_rfl) yX (.inr (by kernel_rfl)))<| T_g1 26 149 (vp (some d)) (bv 44 100663295) [] (pure (.value (vp (some d))):Sem Next) (λ_ _ _ _ _=>rfl)<| T_g1 27 150 (vp (some d)) (bv 44 234881023) [149] (pure (.value (vp (some d))):Sem Next) (λ_ _ _ _ _=>rfl)<| T_g1 28 151 (vp (some d)) (bv 44 503316479) [150] (pure (.value (vp (some d))):Sem Next) (λ_ _ _ _ _=>rfl)<| T_g1 29 152 (vp dg) (bv 44 1040187391) [151] (aT 69 (vp (some d))) (dI 44 (λ_=>by kernel_rfl) yV (.inr (by kernel_rfl))) ?_
    obtain⟨cl,rfl,h⟩:=h
    refine T_g1 30 153 (vp (some cl)) (bv 44 2113929215) [152] (pure (.value (vp (some cl))):Sem Next) (λ_ _ _ _ _=>rfl)<| T_g1 31 154 (vp (some cl)) (bv 44 4261412863) [153] (pure (.value (vp (some cl))):Sem Next) (λ_ _ _ _ _=>rfl) ?_
    obtain⟨d2,q60,h⟩:=h
    refine mK (44,cl,[vp d2]) ⟨q60,trivial⟩ ?_
    refine T_g1 32 155 (vp d2) (bv 44 8556380159) [154] (aT 66 (vp (some cl))) (dI 44 (λ_=>by kernel_rfl) yX (.inr (by kernel_rfl))) ?_
    obtain⟨co,rfl,h⟩:=h
    refine T_g1 33 156 (vp (some co)) (bv 44 17146314751) [155] (pure (.value (vp (some co))):Sem Next) (λ_ _ _ _ _=>rfl)<| T_g1 34 157 (vp (some co)) (bv 44 34326183935) [156] (pure (.value (vp (some co))):Sem Next) (λ_ _ _ _ _=>rfl) ?_
    obtain⟨d0,q61,h⟩:=h
    refine mK (44,co,[vp d0]) ⟨q61,trivial⟩ ?_
    refine T_g1 35 158 (vp d0) (bv 44 68685922303) [157] (aT 63 (vp (some co))) (dI 44 (λ_=>by kernel_rfl) yX (.inr (by kernel_rfl))) ?_
    obtain⟨cn,rfl,h⟩:=h
    refine T_g1 36 159 (vp (some cn)) (bv 44 137405399039) [158] (pure (.value (vp (some cn))):Sem Next) (λ_ _ _ _ _=>rfl)<| T_g1 37 160 (vp (some cn)) (bv 44 274844352511) [159] (pure (.value (vp (some cn))):Sem Next) (λ_ _ _ _ _=>rfl) ?_
    obtain⟨bc,q62,h⟩:=h
    refine mK (44,cn,[vi bc]) ⟨q62,trivial⟩ ?_
    refine T_g1 38 161 (vi bc) (bv 44 549722259455) [160] (aT 3 (vp (some cn))) (dI 44 (λ_=>by kernel_rfl) yX (.inr (by kernel_rfl)))<| T_g1 39 162 (vs n j m) (bv 44 1099478073343) [14] (pure (.value (vs n j m)):Sem Next) (λ_ _ _ _ _=>rfl)<| T_g1 40 163 (vi j) (bv 44 2198989701119) [162] (pure (.value (vi j)):Sem Next) (λ_ _ _ _ _=>rfl)<| T_g1 41 164 (vi (zq (bc-(j:Int)))) (bv 44 4398012956671) [161,163] (pure (.value (vi (zq (bc-(j:Int))))):Sem Next) (λ_ _ _ _ _=>rfl)<| yx 25 (some 148) (bv 44 4398046511103) 17 #[vp bb] h ?_;clear h
    rintro fg dh ⟨b8,rfl,f63,f64,f65,f66,f67,f68,f69,f70,h⟩
    refine⟨[(5,vp (some f)),(7,vp (some d)),(13,vs xB e xC),(137,.bool false),(148,vi b8),(164,vi (zq (bc-(j:Int))))],pk,(show aK _ _ _ from⟨f63,f64,f65,f66,f67,f68,f69,f70,trivial⟩),?_⟩
    refine T_g 42 (some 165) (.bool (b8 !=(zq (bc-(j:Int))))) (bv 44 8796093022207) [(5,vp (some f)),(7,vp (some d)),(13,vs xB e xC),(137,.bool false),(165,.bool (b8 !=(zq (bc-(j:Int)))))] (pure (.value (.bool (b8 !=(zq (bc-(j:Int)))))):Sem Next) (λ_ _ _ _ _=>rfl)<| T_g1 43 166 (.bool (b8 !=(zq (bc-(j:Int))))) (bv 44 17592186044415) [137,165] (pure (.value (.bool (b8 !=(zq (bc-(j:Int)))))):Sem Next) (λ_ _ _ _ _=>rfl)<| eI [(5,vp (some f)),(7,vp (some d)),(13,vs xB e xC),(166,.bool (b8 !=(zq (bc-(j:Int)))))] sk<| yz<| aE ?_
    by_cases c71:b8=(zq (bc-(j:Int)))
    ·rw[if_pos c71]at h
     refine aI 166 (bne_eq_false_iff_eq.mpr c71)<| T_kt<| T_sz<| ar 32<| T_ne 1 [(5,vp (some f)),(7,vp (some d)),(13,vs xB e xC),(15,vi 0)]<| T_bz 4 ?_
     obtain⟨d7,m113,i73,i74⟩:=h
     refine dS (x:=K112) (σ:=Int) (λs_=> [(5,vp (some f)),(7,vp (some d)),(13,vs xB e xC),(15,vi s_)]) (λs_ H=>d7 s_ H) (λs_ H=>m113 s_ H) (0:Int) (by kernel_rfl) i73 sk ?_
     rintro l H20 i75
     have h:=i74 l H20 i75
     refine T_su [(5,vp (some f)),(7,vp (some d)),(13,vs xB e xC),(15,vi l)]<| T_sz<| ar 33<| T_ed 4 [] [(170,.bool (decide (l< (e:Int))))] ?_
     by_cases c76:l< (e:Int)
     ·rw[if_pos c76]at h
      refine aH 170 (zQ c76)<| T_kt<| T_sz<| T_bz 5<| T_sz ?_
      obtain⟨ew,q78,bx,rfl,ey,q79,bu,rfl,b1,q80,o,rfl,q81,ct,q82,h⟩:=h
      refine yq 35 (Code.ops K122) [(14,f,[vp (some bx)]),(14,bx,[vp (some bu)]),(14,bu,[vp b1]),(14,(o.add (Int.toNat l*1)),[vi ct])] 21 (bv 21 0) (show aK _ _ _ from⟨⟨q78,trivial⟩,⟨q79,trivial⟩,⟨q80,trivial⟩,⟨q82,trivial⟩,trivial⟩)<| T_gp 0 (some 174) (vp (some f)) (bv 21 1) [(5,vp (some f)),(7,vp (some d)),(13,vs (some o) e xC),(15,vi l),(174,vp (some f))]<| aF 1 175 (vp (some f)) (bv 21 3) [174]<| aF 2 176 (vp (some f)) (bv 21 7) [175]<| T_g1 3 177 (vp (some bx)) (bv 21 15) [176] (aT 51 (vp (some f))) (yY 14 yX)<| aF 4 178 (vp (some bx)) (bv 21 31) [177]<| aF 5 179 (vp (some bx)) (bv 21 63) [178]<| T_g1 6 180 (vp (some bu)) (bv 21 127) [179] (aT 55 (vp (some bx))) (yY 14 yQ)<| aF 7 181 (vp (some bu)) (bv 21 255) [180]<| aF 8 182 (vp (some bu)) (bv 21 511) [181]<| T_g1 9 183 (vp b1) (bv 21 1023) [182] (aT 58 (vp (some bu))) (yY 14 yJ)<| aF 10 184 (vs (some o) e xC) (bv 21 2047) []<| aF 11 185 (vi l) (bv 21 4095) []<| T_g1 12 186 (vp (some (o.add (Int.toNat l*1)))) (bv 21 8191) [184,185] (bD 49 (vs (some o) e xC) (vi l)) (λ_ w _ _ _=>bR (P:=Tryz.prog) (t:=49) (elem:=3) (sz:=1) (a:=o) (len:=e) (cap:=xC) (k:=.i64) (i:=l) Tryz.underlying49 (λ_=>by kernel_rfl) q81.1 q81.2 w)<| T_g1 13 187 (vi ct) (bv 21 16383) [186] (aT 3 (vp (some (o.add (Int.toNat l*1))))) (yY 14 yK) ?_
      refine sW 14 18 (by kernel_rfl) ?_ ?_
      ·replace h:=h.1
       refine sX 14 (some 188) (bv 21 32767) 18 #[vp b1,vi ct] (by kernel_rfl) (λ_=>by kernel_rfl) h (by kernel_rfl) ?_;clear h
       rintro fe fk ⟨bi,ba,bh,an,ao,am,ap,a5,rfl,h⟩
       refine⟨[(5,vp (some f)),(7,vp (some d)),(13,vs (some o) e xC),(15,vi l),(188,.tuple #[.agg #[vi bi,vi ba,vi bh,vi an,vi ao,vi am,vi ap],.bool a5])],pk,(show aK _ _ _ from⟨trivial,trivial,trivial,trivial,trivial⟩),?_⟩
       refine T_g 15 (some 173) (.tuple #[.agg #[vi bi,vi ba,vi bh,vi an,vi ao,vi am,vi ap],.bool a5]) (bv 21 65535) [(5,vp (some f)),(7,vp (some d)),(13,vs (some o) e xC),(15,vi l),(173,.tuple #[.agg #[vi bi,vi ba,vi bh,vi an,vi ao,vi am,vi ap],.bool a5])] (pure (.value (.tuple #[.agg #[vi bi,vi ba,vi bh,vi an,vi ao,vi am,vi ap],.bool a5])):Sem Next) (λ_ _ _ _ _=>rfl)<| T_g1 16 189 (.agg #[vi bi,vi ba,vi bh,vi an,vi ao,vi am,vi ap]) (bv 21 131071) [] (pure (.value (.agg #[vi bi,vi ba,vi bh,vi an,vi ao,vi am,vi ap])):Sem Next) (λ_ _ _ _ _=>rfl)<| T_g1 17 190 (.bool a5) (bv 21 262143) [173] (pure (.value (.bool a5)):Sem Next) (λ_ _ _ _ _=>rfl)<| oG 18 (some 16) (bv 21 524287) (λb=>vp (pa b)) (.cells #[vi 0,vi 0,vi 0,vi 0,vi 0,vi 0,vi 0] 79) (by kernel_rfl) (λ_=>by kernel_rfl) (by kernel_rfl) ?_
       intro b H22 e83 e84
       replace h:=h b H22 e83 e84
       refine⟨[(5,vp (some f)),(7,vp (some d)),(13,vs (some o) e xC),(15,vi l),(16,vp (pa b)),(189,.agg #[vi bi,vi ba,vi bh,vi an,vi ao,vi am,vi ap]),(190,.bool a5)],pk,(show aK _ _ _ from⟨trivial,trivial,trivial,trivial,trivial⟩),?_⟩
       obtain⟨q86,h⟩:=h
       refine iS 19 none (bv 21 1048575) (jg 79 (vp (pa b)) (.agg #[vi bi,vi ba,vi bh,vi an,vi ao,vi am,vi ap])) (λHz=>Hz=aP H22 (ad b) [vi bi,vi ba,vi bh,vi an,vi ao,vi am,vi ap] 0) (by kernel_rfl) (λ_=>by kernel_rfl) (iW [vi bi,vi ba,vi bh,vi an,vi ao,vi am,vi ap] 7 (by kernel_rfl) (by kernel_rfl) (λ_=>by kernel_rfl) (by kernel_rfl) q86) (by kernel_rfl) ?_
       intro c2 e85
       replace h:=h c2 e85
       refine⟨[(5,vp (some f)),(7,vp (some d)),(13,vs (some o) e xC),(15,vi l),(16,vp (pa b)),(190,.bool a5)],pk,(show aK _ _ _ from⟨trivial,trivial,trivial,trivial,trivial⟩),?_⟩
       refine T_g 20 (some 17) (.bool a5) (bv 21 2097151) [(5,vp (some f)),(7,vp (some d)),(13,vs (some o) e xC),(15,vi l),(16,vp (pa b)),(17,.bool a5)] (pure (.value (.bool a5)):Sem Next) (λ_ _ _ _ _=>rfl)<| eI [(5,vp (some f)),(7,vp (some d)),(13,vs (some o) e xC),(15,vi l),(16,vp (pa b)),(17,.bool a5)] sk<| yz<| aE<| T_sz<| ll 36<| T_q (some 191) (.bool a5) [(5,vp (some f)),(7,vp (some d)),(13,vs (some o) e xC),(15,vi l),(16,vp (pa b)),(191,.bool a5)]<| T_q1 192 (.bool (!a5)) [191]<| T_q1 193 (.bool (!a5)) [192] ?_
       by_cases c87:a5=true
       ·rw[if_pos c87]at h
        have b88:(!a5)=false:=congrArg Bool.not (c87)
        have b882:a5=true:=c87
        refine Q_bd 193 (b:=(!a5)) (v:=false) (by simp only[b88,b882,Bool.not_true,Bool.not_false]) ?_
        clear b88 b882
        obtain⟨a4,ae,a2,aa,y,ab,z,q89,h⟩:=h
        refine Q_op (some 194) (aT 79 (vp (pa b))) (.agg #[vi a4,vi ae,vi a2,vi aa,vi y,vi ab,vi z]) (λ_=>by kernel_rfl) (hG (aQ (λ_=>by kernel_rfl) (λ_=>by kernel_rfl) q89)) [(5,vp (some f)),(7,vp (some d)),(13,vs (some o) e xC),(15,vi l),(193,.bool false),(194,.agg #[vi a4,vi ae,vi a2,vi aa,vi y,vi ab,vi z])] pk ?_
        refine T_q (some 195) (vp (some d)) [(5,vp (some f)),(7,vp (some d)),(13,vs (some o) e xC),(15,vi l),(193,.bool false),(194,.agg #[vi a4,vi ae,vi a2,vi aa,vi y,vi ab,vi z]),(195,vp (some d))]<| T_q1 196 (vp (some d)) [195]<| T_q1 197 (vp (some d)) [196] ?_
        obtain⟨ee,q90,h⟩:=h
        refine iL (some 198) 69 q90 [197] [(198,vp ee)] ?_
        obtain⟨de,rfl,h⟩:=h
        refine T_q1 199 (vp (some de)) [198]<| T_q1 200 (vp (some de)) [199] ?_
        obtain⟨ec,q91,h⟩:=h
        refine iL (some 201) 66 q91 [200] [(201,vp ec)] ?_
        obtain⟨dq,rfl,h⟩:=h
        refine T_q1 202 (vp (some dq)) [201]<| T_q1 203 (vp (some dq)) [202] ?_
        obtain⟨ef,q92,h⟩:=h
        refine iL (some 204) 63 q92 [203] [(204,vp ef)] ?_
        obtain⟨dm,rfl,h⟩:=h
        refine T_q1 205 (vp (some dm)) [204]<| T_q1 206 (vp (some (dm.add 1))) [205] ?_
        obtain⟨d8,dt,d1,q93,h⟩:=h
        refine iL (some 207) 75 q93 [206] [(207,vs d8 dt d1)]<| T_q1 208 (vi l) [] ?_
        obtain⟨cy,rfl,q94,h⟩:=h
        refine Q_op (some 209) (bD 75 (vs (some cy) dt d1) (vi l)) (vp (some (cy.add (Int.toNat l*9)))) (λ_=>by kernel_rfl) (λw _=>bR (P:=Tryz.prog) (t:=75) (elem:=83) (sz:=9) (a:=cy) (len:=dt) (cap:=d1) (k:=.i64) (i:=l) Tryz.underlying75 (λ_=>by kernel_rfl) q94.1 q94.2 w) [(5,vp (some f)),(7,vp (some d)),(13,vs (some o) e xC),(15,vi l),(193,.bool false),(194,.agg #[vi a4,vi ae,vi a2,vi aa,vi y,vi ab,vi z]),(209,vp (some (cy.add (Int.toNat l*9))))] pk ?_
        refine T_q (some 210) (vp (some ((cy.add (Int.toNat l*9)).add 1))) [(5,vp (some f)),(7,vp (some d)),(13,vs (some o) e xC),(15,vi l),(193,.bool false),(194,.agg #[vi a4,vi ae,vi a2,vi aa,vi y,vi ab,vi z]),(210,vp (some ((cy.add (Int.toNat l*9)).add 1)))] ?_
        obtain⟨be,a9,cc,ay,az,au,a0,q95,h⟩:=h
        refine Q_op (some 211) (aT 79 (vp (some ((cy.add (Int.toNat l*9)).add 1)))) (.agg #[vi be,vi a9,vi cc,vi ay,vi az,vi au,vi a0]) (λ_=>by kernel_rfl) (hG (aQ (λ_=>by kernel_rfl) (λ_=>by kernel_rfl) q95)) [(5,vp (some f)),(7,vp (some d)),(13,vs (some o) e xC),(15,vi l),(193,.bool false),(194,.agg #[vi a4,vi ae,vi a2,vi aa,vi y,vi ab,vi z]),(211,.agg #[vi be,vi a9,vi cc,vi ay,vi az,vi au,vi a0])] pk ?_
        obtain⟨q96,h⟩:=h
        refine Q_op (some 212) (binN .neq 79 (.agg #[vi a4,vi ae,vi a2,vi aa,vi y,vi ab,vi z]) (.agg #[vi be,vi a9,vi cc,vi ay,vi az,vi au,vi a0])) (.bool (!(decide (a4=be/\ae=a9/\a2=cc/\aa=ay/\y=az/\ab=au/\z=a0)))) (λ_=>by kernel_rfl) (λw _=>pO (P:=Tryz.prog) (T:=79) (A:=59) (I:=3) Tryz.underlying79 (by kernel_rfl) Tryz.underlying3 Tryz.underlying59 (show Tryz.prog.info? 3=some Tryz.t3 from by kernel_rfl) (by kernel_rfl) ⟨by decide,by decide,by decide,by decide⟩ ⟨rfl,rfl,rfl,rfl⟩ ⟨rfl,rfl,rfl,rfl⟩ (λ_=>by kernel_rfl) (λ_=>by kernel_rfl) (λ_=>by kernel_rfl) w) [(5,vp (some f)),(7,vp (some d)),(13,vs (some o) e xC),(15,vi l),(193,.bool false),(212,.bool (!(decide (a4=be/\ae=a9/\a2=cc/\aa=ay/\y=az/\ab=au/\z=a0))))] pk ?_
        refine T_q (some 213) (.bool (!(decide (a4=be/\ae=a9/\a2=cc/\aa=ay/\y=az/\ab=au/\z=a0)))) [(5,vp (some f)),(7,vp (some d)),(13,vs (some o) e xC),(15,vi l),(213,.bool (!(decide (a4=be/\ae=a9/\a2=cc/\aa=ay/\y=az/\ab=au/\z=a0))))]<| jp [(5,vp (some f)),(7,vp (some d)),(13,vs (some o) e xC),(15,vi l),(213,.bool (!(decide (a4=be/\ae=a9/\a2=cc/\aa=ay/\y=az/\ab=au/\z=a0))))] sk<| T_qe ?_
        by_cases c97:a4=be/\ae=a9/\a2=cc/\aa=ay/\y=az/\ab=au/\z=a0
        ·rw[if_pos c97]at h
         exact aI 213 (su c97)<| T_k<| aL<| aE<| T_rz 34<| T_ne 3 [(5,vp (some f)),(7,vp (some d)),(13,vs (some o) e xC),(15,vi (zq (l+1)))]<| bG ((zq (l+1)):Int) sk h
        rw[if_neg c97]at h
        exact aH 213 (sv c97)<| ar 37<| T_nr 1 [4] [.bool false] hQ h
       rw[if_neg c87]at h
       have b88:(!a5)=true:=congrArg Bool.not (zZ c87)
       have b882:a5=false:=zZ c87
       refine Q_bd 193 (b:=(!a5)) (v:=true) (by simp only[b88,b882,Bool.not_true,Bool.not_false]) ?_
       clear b88 b882
       exact T_q1 194 (undef) [16]<| T_q1 195 (undef) []<| T_q1 196 (undef) [195]<| T_q1 197 (undef) [196]<| T_q1 198 (undef) [197]<| T_q1 199 (undef) [198]<| T_q1 200 (undef) [199]<| T_q1 201 (undef) [200]<| T_q1 202 (undef) [201]<| T_q1 203 (undef) [202]<| T_q1 204 (undef) [203]<| T_q1 205 (undef) [204]<| T_q1 206 (undef) [205]<| T_q1 207 (undef) [206]<| T_q1 208 (undef) []<| T_q1 209 (undef) [207,208]<| T_q1 210 (undef) [209]<| T_q1 211 (undef) [210]<| T_q1 212 (undef) [194,211]<| T_q1 213 (.bool true) [193,212]<| jp [(5,vp (some f)),(7,vp (some d)),(13,vs (some o) e xC),(15,vi l),(213,.bool true)] sk<| T_qe<| T_tz 213<| ar 37<| T_nr 1 [4] [.bool false] hQ h
      replace h:=h.2
      refine tv 18 (some 16) (bv 21 278527) (λb=>vp (pa b)) (.cells #[vi 0,vi 0,vi 0,vi 0,vi 0,vi 0,vi 0] 79) (by kernel_rfl) (λ_=>by kernel_rfl) (by kernel_rfl) ?_
      intro br H24 e103 e104
      replace h:=h br H24 e103 e104
      obtain⟨f99,f100,f101,f102,h⟩:=h
      refine⟨[(5,vp (some f)),(7,vp (some d)),(13,vs (some o) e xC),(15,vi l),(16,vp (pa br)),(183,vp b1),(187,vi ct)],pk,(show aK _ _ _ from⟨f99,f100,f101,f102,trivial⟩),?_⟩
      refine yx 14 (some 188) (bv 21 294911) 18 #[vp b1,vi ct] h ?_;clear h
      rintro ff e4 ⟨a7,a1,bj,ak,ai,aj,al,a6,rfl,h⟩
      refine⟨[(5,vp (some f)),(7,vp (some d)),(13,vs (some o) e xC),(15,vi l),(16,vp (pa br)),(188,.tuple #[.agg #[vi a7,vi a1,vi bj,vi ak,vi ai,vi aj,vi al],.bool a6])],pk,(show aK _ _ _ from⟨trivial,trivial,trivial,trivial,trivial⟩),?_⟩
      refine T_g 15 (some 173) (.tuple #[.agg #[vi a7,vi a1,vi bj,vi ak,vi ai,vi aj,vi al],.bool a6]) (bv 21 327679) [(5,vp (some f)),(7,vp (some d)),(13,vs (some o) e xC),(15,vi l),(16,vp (pa br)),(173,.tuple #[.agg #[vi a7,vi a1,vi bj,vi ak,vi ai,vi aj,vi al],.bool a6])] (pure (.value (.tuple #[.agg #[vi a7,vi a1,vi bj,vi ak,vi ai,vi aj,vi al],.bool a6])):Sem Next) (λ_ _ _ _ _=>rfl)<| T_g1 16 189 (.agg #[vi a7,vi a1,vi bj,vi ak,vi ai,vi aj,vi al]) (bv 21 393215) [] (pure (.value (.agg #[vi a7,vi a1,vi bj,vi ak,vi ai,vi aj,vi al])):Sem Next) (λ_ _ _ _ _=>rfl)<| T_g1 17 190 (.bool a6) (bv 21 524287) [173] (pure (.value (.bool a6)):Sem Next) (λ_ _ _ _ _=>rfl) ?_
      obtain⟨q106,h⟩:=h
      refine iS 19 none (bv 21 1048575) (jg 79 (vp (pa br)) (.agg #[vi a7,vi a1,vi bj,vi ak,vi ai,vi aj,vi al])) (λHz=>Hz=aP e4 (ad br) [vi a7,vi a1,vi bj,vi ak,vi ai,vi aj,vi al] 0) (by kernel_rfl) (λ_=>by kernel_rfl) (iW [vi a7,vi a1,vi bj,vi ak,vi ai,vi aj,vi al] 7 (by kernel_rfl) (by kernel_rfl) (λ_=>by kernel_rfl) (by kernel_rfl) q106) (by kernel_rfl) ?_
      intro c0 e105
      replace h:=h c0 e105
      refine⟨[(5,vp (some f)),(7,vp (some d)),(13,vs (some o) e xC),(15,vi l),(16,vp (pa br)),(190,.bool a6)],pk,(show aK _ _ _ from⟨trivial,trivial,trivial,trivial,trivial⟩),?_⟩
      refine T_g 20 (some 17) (.bool a6) (bv 21 2097151) [(5,vp (some f)),(7,vp (some d)),(13,vs (some o) e xC),(15,vi l),(16,vp (pa br)),(17,.bool a6)] (pure (.value (.bool a6)):Sem Next) (λ_ _ _ _ _=>rfl)<| eI [(5,vp (some f)),(7,vp (some d)),(13,vs (some o) e xC),(15,vi l),(16,vp (pa br)),(17,.bool a6)] sk<| yz<| aE<| T_sz<| ll 36<| T_q (some 191) (.bool a6) [(5,vp (some f)),(7,vp (some d)),(13,vs (some o) e xC),(15,vi l),(16,vp (pa br)),(191,.bool a6)]<| T_q1 192 (.bool (!a6)) [191]<| T_q1 193 (.bool (!a6)) [192] ?_
      by_cases c107:a6=true
      ·rw[if_pos c107]at h
       have b108:(!a6)=false:=congrArg Bool.not (c107)
       have b1082:a6=true:=c107
       refine Q_bd 193 (b:=(!a6)) (v:=false) (by simp only[b108,b1082,Bool.not_true,Bool.not_false]) ?_
       clear b108 b1082
       obtain⟨ag,ac,a3,s,q,p,r,q109,h⟩:=h
       refine Q_op (some 194) (aT 79 (vp (pa br))) (.agg #[vi ag,vi ac,vi a3,vi s,vi q,vi p,vi r]) (λ_=>by kernel_rfl) (hG (aQ (λ_=>by kernel_rfl) (λ_=>by kernel_rfl) q109)) [(5,vp (some f)),(7,vp (some d)),(13,vs (some o) e xC),(15,vi l),(193,.bool false),(194,.agg #[vi ag,vi ac,vi a3,vi s,vi q,vi p,vi r])] pk ?_
       refine T_q (some 195) (vp (some d)) [(5,vp (some f)),(7,vp (some d)),(13,vs (some o) e xC),(15,vi l),(193,.bool false),(194,.agg #[vi ag,vi ac,vi a3,vi s,vi q,vi p,vi r]),(195,vp (some d))]<| T_q1 196 (vp (some d)) [195]<| T_q1 197 (vp (some d)) [196] ?_
       obtain⟨ei,q110,h⟩:=h
       refine iL (some 198) 69 q110 [197] [(198,vp ei)] ?_
       obtain⟨du,rfl,h⟩:=h
       refine T_q1 199 (vp (some du)) [198]<| T_q1 200 (vp (some du)) [199] ?_
       obtain⟨eh,q111,h⟩:=h
       refine iL (some 201) 66 q111 [200] [(201,vp eh)] ?_
       obtain⟨dk,rfl,h⟩:=h
       refine T_q1 202 (vp (some dk)) [201]<| T_q1 203 (vp (some dk)) [202] ?_
       obtain⟨eg,q112,h⟩:=h
       refine iL (some 204) 63 q112 [203] [(204,vp eg)] ?_
       obtain⟨dl,rfl,h⟩:=h
       refine T_q1 205 (vp (some dl)) [204]<| T_q1 206 (vp (some (dl.add 1))) [205] ?_
       obtain⟨d9,dp,dy,q113,h⟩:=h
       refine iL (some 207) 75 q113 [206] [(207,vs d9 dp dy)]<| T_q1 208 (vi l) [] ?_
       obtain⟨cx,rfl,q114,h⟩:=h
       refine Q_op (some 209) (bD 75 (vs (some cx) dp dy) (vi l)) (vp (some (cx.add (Int.toNat l*9)))) (λ_=>by kernel_rfl) (λw _=>bR (P:=Tryz.prog) (t:=75) (elem:=83) (sz:=9) (a:=cx) (len:=dp) (cap:=dy) (k:=.i64) (i:=l) Tryz.underlying75 (λ_=>by kernel_rfl) q114.1 q114.2 w) [(5,vp (some f)),(7,vp (some d)),(13,vs (some o) e xC),(15,vi l),(193,.bool false),(194,.agg #[vi ag,vi ac,vi a3,vi s,vi q,vi p,vi r]),(209,vp (some (cx.add (Int.toNat l*9))))] pk ?_
       refine T_q (some 210) (vp (some ((cx.add (Int.toNat l*9)).add 1))) [(5,vp (some f)),(7,vp (some d)),(13,vs (some o) e xC),(15,vi l),(193,.bool false),(194,.agg #[vi ag,vi ac,vi a3,vi s,vi q,vi p,vi r]),(210,vp (some ((cx.add (Int.toNat l*9)).add 1)))] ?_
       obtain⟨bf,a8,bn,aq,aw,av,ax,q115,h⟩:=h
       refine Q_op (some 211) (aT 79 (vp (some ((cx.add (Int.toNat l*9)).add 1)))) (.agg #[vi bf,vi a8,vi bn,vi aq,vi aw,vi av,vi ax]) (λ_=>by kernel_rfl) (hG (aQ (λ_=>by kernel_rfl) (λ_=>by kernel_rfl) q115)) [(5,vp (some f)),(7,vp (some d)),(13,vs (some o) e xC),(15,vi l),(193,.bool false),(194,.agg #[vi ag,vi ac,vi a3,vi s,vi q,vi p,vi r]),(211,.agg #[vi bf,vi a8,vi bn,vi aq,vi aw,vi av,vi ax])] pk ?_
       obtain⟨q116,h⟩:=h
       refine Q_op (some 212) (binN .neq 79 (.agg #[vi ag,vi ac,vi a3,vi s,vi q,vi p,vi r]) (.agg #[vi bf,vi a8,vi bn,vi aq,vi aw,vi av,vi ax])) (.bool (!(decide (ag=bf/\ac=a8/\a3=bn/\s=aq/\q=aw/\p=av/\r=ax)))) (λ_=>by kernel_rfl) (λw _=>pO (P:=Tryz.prog) (T:=79) (A:=59) (I:=3) Tryz.underlying79 (by kernel_rfl) Tryz.underlying3 Tryz.underlying59 (show Tryz.prog.info? 3=some Tryz.t3 from by kernel_rfl) (by kernel_rfl) ⟨by decide,by decide,by decide,by decide⟩ ⟨rfl,rfl,rfl,rfl⟩ ⟨rfl,rfl,rfl,rfl⟩ (λ_=>by kernel_rfl) (λ_=>by kernel_rfl) (λ_=>by kernel_rfl) w) [(5,vp (some f)),(7,vp (some d)),(13,vs (some o) e xC),(15,vi l),(193,.bool false),(212,.bool (!(decide (ag=bf/\ac=a8/\a3=bn/\s=aq/\q=aw/\p=av/\r=ax))))] pk ?_
       refine T_q (some 213) (.bool (!(decide (ag=bf/\ac=a8/\a3=bn/\s=aq/\q=aw/\p=av/\r=ax)))) [(5,vp (some f)),(7,vp (some d)),(13,vs (some o) e xC),(15,vi l),(213,.bool (!(decide (ag=bf/\ac=a8/\a3=bn/\s=aq/\q=aw/\p=av/\r=ax))))]<| jp [(5,vp (some f)),(7,vp (some d)),(13,vs (some o) e xC),(15,vi l),(213,.bool (!(decide (ag=bf/\ac=a8/\a3=bn/\s=aq/\q=aw/\p=av/\r=ax))))] sk<| T_qe ?_
       by_cases c117:ag=bf/\ac=a8/\a3=bn/\s=aq/\q=aw/\p=av/\r=ax
       ·rw[if_pos c117]at h
        exact aI 213 (su c117)<| T_k<| aL<| aE<| T_rz 34<| T_ne 3 [(5,vp (some f)),(7,vp (some d)),(13,vs (some o) e xC),(15,vi (zq (l+1)))]<| bG ((zq (l+1)):Int) sk h
       rw[if_neg c117]at h
       exact aH 213 (sv c117)<| ar 37<| T_nr 1 [4] [.bool false] hQ h
      rw[if_neg c107]at h
      have b108:(!a6)=true:=congrArg Bool.not (zZ c107)
      have b1082:a6=false:=zZ c107
      refine Q_bd 193 (b:=(!a6)) (v:=true) (by simp only[b108,b1082,Bool.not_true,Bool.not_false]) ?_
      clear b108 b1082
      exact T_q1 194 (undef) [16]<| T_q1 195 (undef) []<| T_q1 196 (undef) [195]<| T_q1 197 (undef) [196]<| T_q1 198 (undef) [197]<| T_q1 199 (undef) [198]<| T_q1 200 (undef) [199]<| T_q1 201 (undef) [200]<| T_q1 202 (undef) [201]<| T_q1 203 (undef) [202]<| T_q1 204 (undef) [203]<| T_q1 205 (undef) [204]<| T_q1 206 (undef) [205]<| T_q1 207 (undef) [206]<| T_q1 208 (undef) []<| T_q1 209 (undef) [207,208]<| T_q1 210 (undef) [209]<| T_q1 211 (undef) [210]<| T_q1 212 (undef) [194,211]<| T_q1 213 (.bool true) [193,212]<| jp [(5,vp (some f)),(7,vp (some d)),(13,vs (some o) e xC),(15,vi l),(213,.bool true)] sk<| T_qe<| T_tz 213<| ar 37<| T_nr 1 [4] [.bool false] hQ h
     rw[if_neg c76]at h
     refine aI 170 (zJ c76)<| zk 4<| aD<| aD<| aR<| aE<| ar 38<| T_nu []<| T_c (some 214) h ?_;clear h
     rintro fl fw ⟨d6,rfl,h⟩
     refine⟨[(214,.bool d6)],pk,?_⟩
     exact T_nr 1 [4] [.bool d6] hQ h
    rw[if_neg c71]at h
    exact aH 166 (bne_iff_ne.mpr c71)<| ar 31<| T_nr 1 [4] [.bool false] hQ h
   rw[if_neg c56]at h
   refine G_bd 137 (bne_iff_ne.mpr c56) ?_
   exact aA 15 (some 138) (bv 44 65535) [] [(138,undef)]<| aA 16 (some 139) (bv 44 131071) [138] [(139,undef)]<| aA 17 (some 140) (bv 44 262143) [139] [(140,undef)]<| aA 18 (some 141) (bv 44 524287) [140] [(141,undef)]<| aA 19 (some 142) (bv 44 1048575) [141] [(142,undef)]<| aA 20 (some 143) (bv 44 2097151) [142] [(143,undef)]<| aA 21 (some 144) (bv 44 4194303) [143] [(144,undef)]<| aA 22 (some 145) (bv 44 8388607) [144] [(145,undef)]<| aA 23 (some 146) (bv 44 16777215) [145] [(146,undef)]<| aA 24 (some 147) (bv 44 33554431) [146] [(147,undef)]<| aA 25 (some 148) (bv 44 67108863) [147] [(148,undef)]<| aA 26 (some 149) (bv 44 134217727) [] [(149,undef)]<| aA 27 (some 150) (bv 44 268435455) [149] [(150,undef)]<| aA 28 (some 151) (bv 44 536870911) [150] [(151,undef)]<| aA 29 (some 152) (bv 44 1073741823) [151] [(152,undef)]<| aA 30 (some 153) (bv 44 2147483647) [152] [(153,undef)]<| aA 31 (some 154) (bv 44 4294967295) [153] [(154,undef)]<| aA 32 (some 155) (bv 44 8589934591) [154] [(155,undef)]<| aA 33 (some 156) (bv 44 17179869183) [155] [(156,undef)]<| aA 34 (some 157) (bv 44 34359738367) [156] [(157,undef)]<| aA 35 (some 158) (bv 44 68719476735) [157] [(158,undef)]<| aA 36 (some 159) (bv 44 137438953471) [158] [(159,undef)]<| aA 37 (some 160) (bv 44 274877906943) [159] [(160,undef)]<| aA 38 (some 161) (bv 44 549755813887) [160] [(161,undef)]<| aA 39 (some 162) (bv 44 1099511627775) [14] [(162,undef)]<| aA 40 (some 163) (bv 44 2199023255551) [162] [(163,undef)]<| aA 41 (some 164) (bv 44 4398046511103) [161,163] [(164,undef)]<| aA 42 (some 165) (bv 44 8796093022207) [148,164] [(165,undef)]<| T_g1 43 166 (.bool true) (bv 44 17592186044415) [137,165] (pure (.value (.bool true)):Sem Next) (λ_ _ _ _ _=>rfl)<| eI [(5,vp (some f)),(7,vp (some d)),(13,vs xB e xC),(166,.bool true)] sk<| yz<| aE<| T_tz 166<| ar 31<| T_nr 1 [4] [.bool false] hQ h
  rw[if_neg c48]at h
  exact yq 30 (Code.ops K103) [] 44 (bv 44 0) (show aK _ _ _ from trivial)<| T_gp 0 (some 123) (vs xB e xC) (bv 44 1) [(5,vp (some f)),(7,vp (some d)),(13,vs xB e xC),(14,vs n j m),(123,vs xB e xC)]<| aF 1 124 (vi e) (bv 44 3) [123]<| aF 2 125 (vs n j m) (bv 44 7) []<| aF 3 126 (vi j) (bv 44 15) [125]<| aF 4 127 (.bool ((e:Int) !=(j:Int))) (bv 44 31) [124,126]<| aF 5 128 (.bool ((e:Int) !=(j:Int))) (bv 44 63) [127]<| G_bd 128 (bne_iff_ne.mpr c48)<| aA 6 (some 129) (bv 44 127) [] [(129,undef)]<| aA 7 (some 130) (bv 44 255) [129] [(130,undef)]<| aA 8 (some 131) (bv 44 511) [] [(131,undef)]<| aA 9 (some 132) (bv 44 1023) [131] [(132,undef)]<| aA 10 (some 133) (bv 44 2047) [132] [(133,undef)]<| aA 11 (some 134) (bv 44 4095) [133] [(134,undef)]<| aA 12 (some 135) (bv 44 8191) [130,134] [(135,undef)]<| aF 13 136 (.bool true) (bv 44 16383) [128,135]<| aF 14 137 (.bool true) (bv 44 32767) [136]<| aA 15 (some 138) (bv 44 65535) [] [(138,undef)]<| aA 16 (some 139) (bv 44 131071) [138] [(139,undef)]<| aA 17 (some 140) (bv 44 262143) [139] [(140,undef)]<| aA 18 (some 141) (bv 44 524287) [140] [(141,undef)]<| aA 19 (some 142) (bv 44 1048575) [141] [(142,undef)]<| aA 20 (some 143) (bv 44 2097151) [142] [(143,undef)]<| aA 21 (some 144) (bv 44 4194303) [143] [(144,undef)]<| aA 22 (some 145) (bv 44 8388607) [144] [(145,undef)]<| aA 23 (some 146) (bv 44 16777215) [145] [(146,undef)]<| aA 24 (some 147) (bv 44 33554431) [146] [(147,undef)]<| aA 25 (some 148) (bv 44 67108863) [147] [(148,undef)]<| aA 26 (some 149) (bv 44 134217727) [] [(149,undef)]<| aA 27 (some 150) (bv 44 268435455) [149] [(150,undef)]<| aA 28 (some 151) (bv 44 536870911) [150] [(151,undef)]<| aA 29 (some 152) (bv 44 1073741823) [151] [(152,undef)]<| aA 30 (some 153) (bv 44 2147483647) [152] [(153,undef)]<| aA 31 (some 154) (bv 44 4294967295) [153] [(154,undef)]<| aA 32 (some 155) (bv 44 8589934591) [154] [(155,undef)]<| aA 33 (some 156) (bv 44 17179869183) [155] [(156,undef)]<| aA 34 (some 157) (bv 44 34359738367) [156] [(157,undef)]<| aA 35 (some 158) (bv 44 68719476735) [157] [(158,undef)]<| aA 36 (some 159) (bv 44 137438953471) [158] [(159,undef)]<| aA 37 (some 160) (bv 44 274877906943) [159] [(160,undef)]<| aA 38 (some 161) (bv 44 549755813887) [160] [(161,undef)]<| aA 39 (some 162) (bv 44 1099511627775) [14] [(162,undef)]<| aA 40 (some 163) (bv 44 2199023255551) [162] [(163,undef)]<| aA 41 (some 164) (bv 44 4398046511103) [161,163] [(164,undef)]<| aA 42 (some 165) (bv 44 8796093022207) [148,164] [(165,undef)]<| aF 43 166 (.bool true) (bv 44 17592186044415) [137,165]<| eI [(5,vp (some f)),(7,vp (some d)),(13,vs xB e xC),(166,.bool true)] sk<| yz<| aE<| T_tz 166<| ar 31<| T_nr 1 [4] [.bool false] hQ h
 rw[if_neg c8]at h
 exact aH 44 (bne_iff_ne.mpr c8)<| ar 8<| T_nr 1 [4] [.bool false] hQ h
end dJ

