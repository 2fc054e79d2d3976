/- Printed: what each function asks, and that it is sound. -/
import Derived.Test.YtojbbgcjiaphjaaGreatFnsC
set_option linter.unusedSimpArgs false
set_option linter.unusedVariables false
set_option maxRecDepth 100000
set_option maxHeartbeats 1000000
noncomputable section
namespace Go.Proofs.YtojbbgcjiaphjaaGreat
open Go
/-! moraine/audit.Picture -/
namespace dT
def K0:=Func.code Tryz.f16
def K2:=cb K0
def K4:=cb K2
def K6:=cb K4
def K7:=ca K6
def K8:=cb K6
def K10:=cb K7
def K11:=ca K10
def K12:=ca K11
def K25:=cb K8
def K26:=ca K25
def K29:=cb K26
def K30:=ca K29
def K31:=ca K30
def K33:=cb K31
def K35:=cb K33
def K38:=ca K35
def K40:=ca K38
def K42:=cb K40
def K43:=ca K42
def K44:=cb K42
def K45:=ca K44
def K46:=cb K44
def K48:=cb K45
def K49:=ca K48
def K50:=ca K49
def K51:=cb K49
def K63:=ca K46
def K66:=cb K63
def K67:=ca K66
def K68:=ca K67
def K69:=ca K68
def K71:=ca K69
end dT
def dT.pt(hv ae:zW)(p u:Nat)(H:zV)(R:zv):Prop:=
 ∀(b:Nat) (H1:zV),b=H.size->H1=H.push (.cells #[.pointer hv] 28)->
 ∃x:zW,hat H1 (ad b)=some (.pointer x)/\
 fI.C x ae p u H1 (λv H2=> ∃(ai:zW) (d m:Nat) (rb:Option Nat),v=.tuple #[.slice ai d m,.map rb]/\
 ∀(l:Nat) (H3:zV),l=H2.size->H3=H2.push (.cells #[.map none] 100)->
 (aK H3 (ad l) 0 1)/\ ∀H4,H4=aU H3 (ad l) [.map rb] 0->
 ∀(a0:Nat) (H5:zV),a0=H4.size->H5=H4.push (.cells #[.int .i64 0,.int .i64 0,.int .u64 0,.slice none 0 0,.slice none 0 0] 61)->
 ∃(gi:zw) (m13:Int->zV->Nat),gi 0 H5/\ ∀(an:Int) (H6:zV),gi an H6->
 if an< (p:Int)then(
 ∃ag:Addr,ae=some ag/\
 yZ an p/\
 ∃bk:Int,hat H6 (ag.add (Int.toNat an*1))=some (.int .u64 bk)/\
 ∃f5:Option Nat,hat H6 (ad l)=some (.map f5)/\
 ∃mr:Nat,f5=some mr/\
 ∃(es:Array MapEntry) (cl:Nat) (ks:List (Int×Value)),H6[mr]?=some (.map es cl)/\Ents (bT .u64) es.toList ks/\
 ∃f7:Int,(mget ks bk).getD (.int .i64 0)=.int .i64 f7/\
 aT.C (some (ad a0)) bk f7 H6 (λ_ H7=>
 (gi (zY (an+1)) H7/\m13 (zY (an+1)) H7<m13 an H6)))
 else
 ∃(e3 dn dp:Int) (bl:zW) (bu bm:Nat) (e0:zW) (em fo:Nat),aS H6 (ad a0) 0 [.int .i64 e3,.int .i64 dn,.int .u64 dp,.slice bl bu bm,.slice e0 em fo]/\
 ∀(fv:Nat) (H8:zV),fv=H6.size->H8=H6.push (.cells #[.int .i64 e3,.int .i64 dn,.int .u64 dp,.slice bl bu bm,.slice e0 em fo] 61)->
 ∃(c5:zW->Nat->Nat->Int->(List Nat)->zV->Prop) (m32:zW->Nat->Nat->Int->(List Nat)->zV->Nat),c5 (some (ad fv)) 1 1 0 ([]) H8/\ ∀(f:zW) (outN:Nat) (outC:Nat) (s42:Int) (ms:List Nat) (H9:zV),c5 f outN outC s42 ms H9->
 if s42< (d:Int)then(
 ∃j:Addr,ai=some j/\
 yZ s42 d/\
 ∃ei:Int,hat H9 (j.add (Int.toNat s42*1))=some (.int .u64 ei)/\
 ∀(e:Nat) (H10:zV),e=H9.size->H10=H9.push (.cells #[.int .u64 0] 40)->
 (aK H10 (ad e) 0 1)/\ ∀di,di=aU H10 (ad e) [.int .u64 ei] 0->
 ∃bz:Int,hat di (ad e)=some (.int .u64 bz)/\
 ∃a4:zW,hat di (ad b)=some (.pointer a4)/\
 ∃a5:Int,hat di (ad e)=some (.int .u64 a5)/\
 ∃av:zW,hat di (ad b)=some (.pointer av)/\
 ∃ah:Int,hat di (ad e)=some (.int .u64 ah)/\
 (
 bZ.C bz di (λjh fp=> ∃af:Int,jh=.int .i64 af/\aS fp (ad b) 0 [.pointer a4]/\aS fp (ad e) 0 [.int .u64 a5]/\aS fp (ad b) 0 [.pointer av]/\aS fp (ad e) 0 [.int .u64 ah]/\
 (
 cM.C a4 a5 fp (λjk f8=> ∃aw:Int,jk=.int .i64 aw/\aS f8 (ad b) 0 [.pointer av]/\aS f8 (ad e) 0 [.int .u64 ah]/\
 (
 cO.C av ah f8 (λjd ht=> ∃b2:Int,jd=.int .u64 b2/\
 ∀(r:Nat) (H15:zV),r=ht.size->H15=ht.push (.cells #[.int .i64 0,.int .i64 0,.int .u64 0,.slice none 0 0,.slice none 0 0] 61)->
 (aK H15 (ad r) 0 5)/\ ∀f6,f6=aU H15 (ad r) [.int .i64 af,.int .i64 aw,.int .u64 b2,.slice none 0 0,.slice none 0 0] 0->
 ∃du:zW,hat f6 (ad b)=some (.pointer du)/\
 ∃ey:Int,hat f6 (ad e)=some (.int .u64 ey)/\
 bA.C du ey f6 (λfw f0=>fw=fw/\
 ∀(rc:LoopState->Option Code->Obj) (lp:Nat) (H18:zV),lp=f0.size+1->H18=(f0.push (.deferred (some []))).push (rc .ready none)->
 ∀vY:Value,(∀(aj:Int) (x_18:Int) (H19:zV) (vRy:zv),H19[lp]?=some (rc .ready none)->
 (H19[lp]?=some (rc .ready none)/\ ∀fs:zV,fs=aF H19 lp (rc .busy none)->
 ∃ev:Option Nat,hat fs (ad l)=some (.map ev)/\
 ∃gd:Nat,ev=some gd/\
 ∃(gv:Array MapEntry) (cl_2:Nat) (ks_2:List (Int×Value)),fs[gd]?=some (.map gv cl_2)/\Ents (bT .u64) gv.toList ks_2/\
 ∃ab:Int,(mget ks_2 x_18).getD (.int .i64 0)=.int .i64 ab/\
 if ab=0 then(
 ∃fl:Int,hat fs (ad e)=some (.int .u64 fl)/\
 bZ.C fl fs (λjj hb=> ∃dm:Int,jj=.int .i64 dm/\
 if dm=2 then(
 ∃fm:Int,hat hb (ad e)=some (.int .u64 fm)/\
 cV.C fm hb (λji g7=> ∃c8:Int,ji=.int .i64 c8/\
 if aj=c8 then(
 ∃ef:zW,hat g7 (ad b)=some (.pointer ef)/\
 bE.C ef x_18 g7 (λjl h3=> ∃da:Int,jl=.int .i64 da/\
 if da>0 then(
 aT.C (some (ad r)) x_18 (-1) h3 (λ_ i7=>
 i7[lp]?=some (rc .busy none)/\
 vRy (.bool true) (aF i7 lp (rc .ready none))))
 else
 aT.C (some (ad r)) x_18 ab h3 (λ_ h6=>
 h6[lp]?=some (rc .busy none)/\
 vRy (.bool true) (aF h6 lp (rc .ready none)))))
 else
 aT.C (some (ad r)) x_18 ab g7 (λ_ jb=>
 jb[lp]?=some (rc .busy none)/\
 vRy (.bool true) (aF jb lp (rc .ready none)))))
 else
 aT.C (some (ad r)) x_18 ab hb (λ_ h5=>
 h5[lp]?=some (rc .busy none)/\
 vRy (.bool true) (aF h5 lp (rc .ready none)))))
 else
 aT.C (some (ad r)) x_18 ab fs (λ_ hg=>
 hg[lp]?=some (rc .busy none)/\
 vRy (.bool true) (aF hg lp (rc .ready none))))->
 FC Tryz.prog vY #[.int .i64 aj,.int .u64 x_18] H19 vRy)->
 FE Tryz.prog fw #[vY] H18 (λ_ h2=>
 (h2[lp]?=some (rc .ready none)/\ ∀ha:zV,ha=aF h2 lp (rc .exhausted none)->
 ∃(gj:zw) (m69:Int->zV->Nat),gj 0 ha/\ ∀(i:Int) (H31:zV),gj i H31->
 ∃(xB:zW) (xN xC:Nat),hat H31 ((ad r).add 3)=some (.slice xB xN xC)/\
 ∃dl:zW,hat H31 (ad b)=some (.pointer dl)/\
 ∃d3:Int,hat H31 (ad e)=some (.int .u64 d3)/\
 cG.C dl d3 H31 (λi2 ej=> ∃b4:Int,i2=.int .i64 b4/\aS ej ((ad r).add 3) 0 [.slice xB xN xC]/\
 if(xN:Int)<b4 then(
 ∃cc:zW,hat ej (ad b)=some (.pointer cc)/\
 ∃c2:Int,hat ej (ad e)=some (.int .u64 c2)/\
 ∃d0:Int,hat ej ((ad r).add 1)=some (.int .i64 d0)/\
 cH.C cc c2 d0 i ej (λh9 jf=> ∃ra gk:Int,h9=.tuple #[.int .u64 ra,.int .i64 gk]/\
 aT.C (some (ad r)) ra 0 jf (λ_ hq=>
 (gj (zY (i+1)) hq/\m69 (zY (i+1)) hq<m69 i H31))))
 else
 ∃(cs bw br:Int) (bd:zW) (a8 a6:Nat) (co:zW) (cg cw:Nat),aS ej (ad r) 0 [.int .i64 cs,.int .i64 bw,.int .u64 br,.slice bd a8 a6,.slice co cg cw]/\
 ∀(gb:Nat) (H35:zV),gb=ej.size->H35=ej.push (.cells #[.int .i64 cs,.int .i64 bw,.int .u64 br,.slice bd a8 a6,.slice co cg cw] 61)->
 dH 5 61 72 [.int .i64 0,.int .i64 0,.int .u64 0,.slice none 0 0,.slice none 0 0] f outN outC (some (ad gb)) 1 H35 (λap fy iq=>
 (c5 ap (outN+1) fy (zY (s42+1)) (f0.size::ms) iq/\m32 ap (outN+1) fy (zY (s42+1)) (f0.size::ms) iq<m32 f outN outC s42 ms H9))))))))/\(
 ∀(q:Nat) (H37:zV),q=f8.size->H37=f8.push (.cells #[.int .i64 0,.int .i64 0,.int .u64 0,.slice none 0 0,.slice none 0 0] 61)->aS H37 (ad b) 0 [.pointer av]/\aS H37 (ad e) 0 [.int .u64 ah]/\
 cO.C av ah H37 (λiv g5=> ∃ce:Int,iv=.int .u64 ce/\
 (aK g5 (ad q) 0 5)/\ ∀f3,f3=aU g5 (ad q) [.int .i64 af,.int .i64 aw,.int .u64 ce,.slice none 0 0,.slice none 0 0] 0->
 ∃eb:zW,hat f3 (ad b)=some (.pointer eb)/\
 ∃el:Int,hat f3 (ad e)=some (.int .u64 el)/\
 bA.C eb el f3 (λdz fx=>dz=dz/\
 ∀(a2:LoopState->Option Code->Obj) (lp_2:Nat) (H41:zV),lp_2=fx.size+1->H41=(fx.push (.deferred (some []))).push (a2 .ready none)->
 ∀iu:Value,(∀(ak:Int) (x_38:Int) (H42:zV) (vRy_2:zv),H42[lp_2]?=some (a2 .ready none)->
 (H42[lp_2]?=some (a2 .ready none)/\ ∀fq:zV,fq=aF H42 lp_2 (a2 .busy none)->
 ∃ew:Option Nat,hat fq (ad l)=some (.map ew)/\
 ∃gg:Nat,ew=some gg/\
 ∃(gx:Array MapEntry) (cl_3:Nat) (ks_3:List (Int×Value)),fq[gg]?=some (.map gx cl_3)/\Ents (bT .u64) gx.toList ks_3/\
 ∃ac:Int,(mget ks_3 x_38).getD (.int .i64 0)=.int .i64 ac/\
 if ac=0 then(
 ∃et:Int,hat fq (ad e)=some (.int .u64 et)/\
 bZ.C et fq (λja hd=> ∃df:Int,ja=.int .i64 df/\
 if df=2 then(
 ∃e7:Int,hat hd (ad e)=some (.int .u64 e7)/\
 cV.C e7 hd (λio g3=> ∃dd:Int,io=.int .i64 dd/\
 if ak=dd then(
 ∃d4:zW,hat g3 (ad b)=some (.pointer d4)/\
 bE.C d4 x_38 g3 (λig i6=> ∃de:Int,ig=.int .i64 de/\
 if de>0 then(
 aT.C (some (ad q)) x_38 (-1) i6 (λ_ ik=>
 ik[lp_2]?=some (a2 .busy none)/\
 vRy_2 (.bool true) (aF ik lp_2 (a2 .ready none))))
 else
 aT.C (some (ad q)) x_38 ac i6 (λ_ ii=>
 ii[lp_2]?=some (a2 .busy none)/\
 vRy_2 (.bool true) (aF ii lp_2 (a2 .ready none)))))
 else
 aT.C (some (ad q)) x_38 ac g3 (λ_ he=>
 he[lp_2]?=some (a2 .busy none)/\
 vRy_2 (.bool true) (aF he lp_2 (a2 .ready none)))))
 else
 aT.C (some (ad q)) x_38 ac hd (λ_ iz=>
 iz[lp_2]?=some (a2 .busy none)/\
 vRy_2 (.bool true) (aF iz lp_2 (a2 .ready none)))))
 else
 aT.C (some (ad q)) x_38 ac fq (λ_ hz=>
 hz[lp_2]?=some (a2 .busy none)/\
 vRy_2 (.bool true) (aF hz lp_2 (a2 .ready none))))->
 FC Tryz.prog iu #[.int .i64 ak,.int .u64 x_38] H42 vRy_2)->
 FE Tryz.prog dz #[iu] H41 (λ_ ir=>
 (ir[lp_2]?=some (a2 .ready none)/\ ∀g1:zV,g1=aF ir lp_2 (a2 .exhausted none)->
 ∃(bi:zw) (m80:Int->zV->Nat),bi 0 g1/\ ∀(au:Int) (H54:zV),bi au H54->
 ∃(ep:zW) (az ez:Nat),hat H54 ((ad q).add 3)=some (.slice ep az ez)/\
 ∃dc:zW,hat H54 (ad b)=some (.pointer dc)/\
 ∃dr:Int,hat H54 (ad e)=some (.int .u64 dr)/\
 cG.C dc dr H54 (λiy eh=> ∃b1:Int,iy=.int .i64 b1/\aS eh ((ad q).add 3) 0 [.slice ep az ez]/\
 if(az:Int)<b1 then(
 ∃b7:zW,hat eh (ad b)=some (.pointer b7)/\
 ∃cz:Int,hat eh (ad e)=some (.int .u64 cz)/\
 ∃d5:Int,hat eh ((ad q).add 1)=some (.int .i64 d5)/\
 cH.C b7 cz d5 au eh (λit jg=> ∃dx gl:Int,it=.tuple #[.int .u64 dx,.int .i64 gl]/\
 aT.C (some (ad q)) dx 0 jg (λ_ ho=>
 (bi (zY (au+1)) ho/\m80 (zY (au+1)) ho<m80 au H54))))
 else
 ∃(cn bt bp:Int) (bc:zW) (bh a7:Nat) (cv:zW) (cm cp:Nat),aS eh (ad q) 0 [.int .i64 cn,.int .i64 bt,.int .u64 bp,.slice bc bh a7,.slice cv cm cp]/\
 ∀(f4:Nat) (H58:zV),f4=eh.size->H58=eh.push (.cells #[.int .i64 cn,.int .i64 bt,.int .u64 bp,.slice bc bh a7,.slice cv cm cp] 61)->
 dH 5 61 72 [.int .i64 0,.int .i64 0,.int .u64 0,.slice none 0 0,.slice none 0 0] f outN outC (some (ad f4)) 1 H58 (λec cy ib=>
 (c5 ec (outN+1) cy (zY (s42+1)) (fx.size::ms) ib/\m32 ec (outN+1) cy (zY (s42+1)) (fx.size::ms) ib<m32 f outN outC s42 ms H9))))))))))/\(
 ∀(o:Nat) (H60:zV),o=fp.size->H60=fp.push (.cells #[.int .i64 0,.int .i64 0,.int .u64 0,.slice none 0 0,.slice none 0 0] 61)->aS H60 (ad b) 0 [.pointer a4]/\aS H60 (ad e) 0 [.int .u64 a5]/\aS H60 (ad b) 0 [.pointer av]/\aS H60 (ad e) 0 [.int .u64 ah]/\
 cM.C a4 a5 H60 (λi8 g2=> ∃bx:Int,i8=.int .i64 bx/\aS g2 (ad b) 0 [.pointer av]/\aS g2 (ad e) 0 [.int .u64 ah]/\
 cO.C av ah g2 (λim g9=> ∃b6:Int,im=.int .u64 b6/\
 (aK g9 (ad o) 0 5)/\ ∀f2,f2=aU g9 (ad o) [.int .i64 af,.int .i64 bx,.int .u64 b6,.slice none 0 0,.slice none 0 0] 0->
 ∃d2:zW,hat f2 (ad b)=some (.pointer d2)/\
 ∃eo:Int,hat f2 (ad e)=some (.int .u64 eo)/\
 bA.C d2 eo f2 (λdt f1=>dt=dt/\
 ∀(a3:LoopState->Option Code->Obj) (lp_3:Nat) (H65:zV),lp_3=f1.size+1->H65=(f1.push (.deferred (some []))).push (a3 .ready none)->
 ∀i5:Value,(∀(am:Int) (x_59:Int) (H66:zV) (vRy_3:zv),H66[lp_3]?=some (a3 .ready none)->
 (H66[lp_3]?=some (a3 .ready none)/\ ∀ft:zV,ft=aF H66 lp_3 (a3 .busy none)->
 ∃eu:Option Nat,hat ft (ad l)=some (.map eu)/\
 ∃gh:Nat,eu=some gh/\
 ∃(gn:Array MapEntry) (cl_4:Nat) (ks_4:List (Int×Value)),ft[gh]?=some (.map gn cl_4)/\Ents (bT .u64) gn.toList ks_4/\
 ∃y:Int,(mget ks_4 x_59).getD (.int .i64 0)=.int .i64 y/\
 if y=0 then(
 ∃fc:Int,hat ft (ad e)=some (.int .u64 fc)/\
 bZ.C fc ft (λhh gz=> ∃c7:Int,hh=.int .i64 c7/\
 if c7=2 then(
 ∃fg:Int,hat gz (ad e)=some (.int .u64 fg)/\
 cV.C fg gz (λhf g0=> ∃dk:Int,hf=.int .i64 dk/\
 if am=dk then(
 ∃ee:zW,hat g0 (ad b)=some (.pointer ee)/\
 bE.C ee x_59 g0 (λip h7=> ∃db:Int,ip=.int .i64 db/\
 if db>0 then(
 aT.C (some (ad o)) x_59 (-1) h7 (λ_ hp=>
 hp[lp_3]?=some (a3 .busy none)/\
 vRy_3 (.bool true) (aF hp lp_3 (a3 .ready none))))
 else
 aT.C (some (ad o)) x_59 y h7 (λ_ i4=>
 i4[lp_3]?=some (a3 .busy none)/\
 vRy_3 (.bool true) (aF i4 lp_3 (a3 .ready none)))))
 else
 aT.C (some (ad o)) x_59 y g0 (λ_ hu=>
 hu[lp_3]?=some (a3 .busy none)/\
 vRy_3 (.bool true) (aF hu lp_3 (a3 .ready none)))))
 else
 aT.C (some (ad o)) x_59 y gz (λ_ i1=>
 i1[lp_3]?=some (a3 .busy none)/\
 vRy_3 (.bool true) (aF i1 lp_3 (a3 .ready none)))))
 else
 aT.C (some (ad o)) x_59 y ft (λ_ ie=>
 ie[lp_3]?=some (a3 .busy none)/\
 vRy_3 (.bool true) (aF ie lp_3 (a3 .ready none))))->
 FC Tryz.prog i5 #[.int .i64 am,.int .u64 x_59] H66 vRy_3)->
 FE Tryz.prog dt #[i5] H65 (λ_ i9=>
 (i9[lp_3]?=some (a3 .ready none)/\ ∀hc:zV,hc=aF i9 lp_3 (a3 .exhausted none)->
 ∃(bi:zw) (m80:Int->zV->Nat),bi 0 hc/\ ∀(aq:Int) (H78:zV),bi aq H78->
 ∃(fe:zW) (ax er:Nat),hat H78 ((ad o).add 3)=some (.slice fe ax er)/\
 ∃c9:zW,hat H78 (ad b)=some (.pointer c9)/\
 ∃dw:Int,hat H78 (ad e)=some (.int .u64 dw)/\
 cG.C c9 dw H78 (λih ek=> ∃b0:Int,ih=.int .i64 b0/\aS ek ((ad o).add 3) 0 [.slice fe ax er]/\
 if(ax:Int)<b0 then(
 ∃b9:zW,hat ek (ad b)=some (.pointer b9)/\
 ∃c4:Int,hat ek (ad e)=some (.int .u64 c4)/\
 ∃d9:Int,hat ek ((ad o).add 1)=some (.int .i64 d9)/\
 cH.C b9 c4 d9 aq ek (λi3 je=> ∃d8 gp:Int,i3=.tuple #[.int .u64 d8,.int .i64 gp]/\
 aT.C (some (ad o)) d8 0 je (λ_ iw=>
 (bi (zY (aq+1)) iw/\m80 (zY (aq+1)) iw<m80 aq H78))))
 else
 ∃(cj bs bq:Int) (ba:zW) (a9 be:Nat) (ci:zW) (cq ck:Nat),aS ek (ad o) 0 [.int .i64 cj,.int .i64 bs,.int .u64 bq,.slice ba a9 be,.slice ci cq ck]/\
 ∀(ff:Nat) (H82:zV),ff=ek.size->H82=ek.push (.cells #[.int .i64 cj,.int .i64 bs,.int .u64 bq,.slice ba a9 be,.slice ci cq ck] 61)->
 dH 5 61 72 [.int .i64 0,.int .i64 0,.int .u64 0,.slice none 0 0,.slice none 0 0] f outN outC (some (ad ff)) 1 H82 (λdv c1 h8=>
 (c5 dv (outN+1) c1 (zY (s42+1)) (f1.size::ms) h8/\m32 dv (outN+1) c1 (zY (s42+1)) (f1.size::ms) h8<m32 f outN outC s42 ms H9)))))))))))/\(
 ∀(n:Nat) (H84:zV),n=di.size->H84=di.push (.cells #[.int .i64 0,.int .i64 0,.int .u64 0,.slice none 0 0,.slice none 0 0] 61)->aS H84 (ad e) 0 [.int .u64 bz]/\aS H84 (ad b) 0 [.pointer a4]/\aS H84 (ad e) 0 [.int .u64 a5]/\aS H84 (ad b) 0 [.pointer av]/\aS H84 (ad e) 0 [.int .u64 ah]/\
 bZ.C bz H84 (λhi f9=> ∃bj:Int,hi=.int .i64 bj/\aS f9 (ad b) 0 [.pointer a4]/\aS f9 (ad e) 0 [.int .u64 a5]/\aS f9 (ad b) 0 [.pointer av]/\aS f9 (ad e) 0 [.int .u64 ah]/\
 cM.C a4 a5 f9 (λix g8=> ∃b3:Int,ix=.int .i64 b3/\aS g8 (ad b) 0 [.pointer av]/\aS g8 (ad e) 0 [.int .u64 ah]/\
 cO.C av ah g8 (λia g4=> ∃cd:Int,ia=.int .u64 cd/\
 (aK g4 (ad n) 0 5)/\ ∀ga,ga=aU g4 (ad n) [.int .i64 bj,.int .i64 b3,.int .u64 cd,.slice none 0 0,.slice none 0 0] 0->
 ∃ea:zW,hat ga (ad b)=some (.pointer ea)/\
 ∃ex:Int,hat ga (ad e)=some (.int .u64 ex)/\
 bA.C ea ex ga (λeg fz=>eg=eg/\
 ∀(a1:LoopState->Option Code->Obj) (lp_4:Nat) (H90:zV),lp_4=fz.size+1->H90=(fz.push (.deferred (some []))).push (a1 .ready none)->
 ∀h0:Value,(∀(al:Int) (x_81:Int) (H91:zV) (vRy_4:zv),H91[lp_4]?=some (a1 .ready none)->
 (H91[lp_4]?=some (a1 .ready none)/\ ∀fu:zV,fu=aF H91 lp_4 (a1 .busy none)->
 ∃fh:Option Nat,hat fu (ad l)=some (.map fh)/\
 ∃gf:Nat,fh=some gf/\
 ∃(gr:Array MapEntry) (cl_5:Nat) (ks_5:List (Int×Value)),fu[gf]?=some (.map gr cl_5)/\Ents (bT .u64) gr.toList ks_5/\
 ∃aa:Int,(mget ks_5 x_81).getD (.int .i64 0)=.int .i64 aa/\
 if aa=0 then(
 ∃fi:Int,hat fu (ad e)=some (.int .u64 fi)/\
 bZ.C fi fu (λic gy=> ∃dg:Int,ic=.int .i64 dg/\
 if dg=2 then(
 ∃fd:Int,hat gy (ad e)=some (.int .u64 fd)/\
 cV.C fd gy (λij g6=> ∃dj:Int,ij=.int .i64 dj/\
 if al=dj then(
 ∃d7:zW,hat g6 (ad b)=some (.pointer d7)/\
 bE.C d7 x_81 g6 (λhs il=> ∃dh:Int,hs=.int .i64 dh/\
 if dh>0 then(
 aT.C (some (ad n)) x_81 (-1) il (λ_ h4=>
 h4[lp_4]?=some (a1 .busy none)/\
 vRy_4 (.bool true) (aF h4 lp_4 (a1 .ready none))))
 else
 aT.C (some (ad n)) x_81 aa il (λ_ h1=>
 h1[lp_4]?=some (a1 .busy none)/\
 vRy_4 (.bool true) (aF h1 lp_4 (a1 .ready none)))))
 else
 aT.C (some (ad n)) x_81 aa g6 (λ_ hx=>
 hx[lp_4]?=some (a1 .busy none)/\
 vRy_4 (.bool true) (aF hx lp_4 (a1 .ready none)))))
 else
 aT.C (some (ad n)) x_81 aa gy (λ_ hj=>
 hj[lp_4]?=some (a1 .busy none)/\
 vRy_4 (.bool true) (aF hj lp_4 (a1 .ready none)))))
 else
 aT.C (some (ad n)) x_81 aa fu (λ_ gq=>
 gq[lp_4]?=some (a1 .busy none)/\
 vRy_4 (.bool true) (aF gq lp_4 (a1 .ready none))))->
 FC Tryz.prog h0 #[.int .i64 al,.int .u64 x_81] H91 vRy_4)->
 FE Tryz.prog eg #[h0] H90 (λ_ gw=>
 (gw[lp_4]?=some (a1 .ready none)/\ ∀gc:zV,gc=aF gw lp_4 (a1 .exhausted none)->
 ∃(bi:zw) (m80:Int->zV->Nat),bi 0 gc/\ ∀(ao:Int) (H103:zV),bi ao H103->
 ∃(fj:zW) (ay fk:Nat),hat H103 ((ad n).add 3)=some (.slice fj ay fk)/\
 ∃c6:zW,hat H103 (ad b)=some (.pointer c6)/\
 ∃dq:Int,hat H103 (ad e)=some (.int .u64 dq)/\
 cG.C c6 dq H103 (λi0 c3=> ∃b5:Int,i0=.int .i64 b5/\aS c3 ((ad n).add 3) 0 [.slice fj ay fk]/\
 if(ay:Int)<b5 then(
 ∃b8:zW,hat c3 (ad b)=some (.pointer b8)/\
 ∃c0:Int,hat c3 (ad e)=some (.int .u64 c0)/\
 ∃d1:Int,hat c3 ((ad n).add 1)=some (.int .i64 d1)/\
 cH.C b8 c0 d1 ao c3 (λjc hl=> ∃d6 gm:Int,jc=.tuple #[.int .u64 d6,.int .i64 gm]/\
 aT.C (some (ad n)) d6 0 hl (λ_ gu=>
 (bi (zY (ao+1)) gu/\m80 (zY (ao+1)) gu<m80 ao H103))))
 else
 ∃(ch bn bo:Int) (bf:zW) (bg bb:Nat) (cu:zW) (ct cr:Nat),aS c3 (ad n) 0 [.int .i64 ch,.int .i64 bn,.int .u64 bo,.slice bf bg bb,.slice cu ct cr]/\
 ∀(en:Nat) (H107:zV),en=c3.size->H107=c3.push (.cells #[.int .i64 ch,.int .i64 bn,.int .u64 bo,.slice bf bg bb,.slice cu ct cr] 61)->
 dH 5 61 72 [.int .i64 0,.int .i64 0,.int .u64 0,.slice none 0 0,.slice none 0 0] f outN outC (some (ad en)) 1 H107 (λdy cx gs=>
 (c5 dy (outN+1) cx (zY (s42+1)) (fz.size::ms) gs/\m32 dy (outN+1) cx (zY (s42+1)) (fz.size::ms) gs<m32 f outN outC s42 ms H9)))))))))))
 else
 Shut (ms) H9 (λhy=>
 R (.slice f outN outC) hy))
namespace dT
theorem link{hv ae:zW}{p u:Nat}{H:zV}{R:zv}(h:pt hv ae p u H R):C hv ae p u H R:=by
 refine T_en K0 111 Tryz.func16 ?_
 intro w0 Q hQ
 unfold pt zY at h
 refine T_su [(0,vp hv),(1,vs ae p u)]<| ar 0<| T_nw (some 2) (λb=>vp (pa b)) (.cells #[vp hv] 28) ?_
 intro b H1 e1 e2
 replace h:=h b H1 e1 e2
 refine T_pd [0] [(2,vp (pa b))]<| T_ed 1 [] []<| ar 1 ?_
 obtain⟨x,q3,h⟩:=h
 refine T_l1 21 28 q3 []<| T_nd 1 [] [(22,vs ae p u)]<| T_c (some 23) h ?_;clear h
 rintro v H2 ⟨ai,d,m,rb,rfl,h⟩
 refine T_pd [21,22] [(23,.tuple #[vs ai d m,.map rb])]<| T_nd 3 [23] [(24,vs ai d m),(25,.map rb)]<| T_nw (some 6) (λb=>vp (pa b)) (.cells #[.map none] 100) ?_
 intro l H3 e4 e5
 replace h:=h l H3 e4 e5
 refine T_pd [] [(6,vp (pa l))]<| T_nd 1 [24] [(5,vs ai d m)] ?_
 obtain⟨q7,h⟩:=h
 refine fB 100 (.map rb) q7 ?_
 intro H4 e6
 replace h:=h H4 e6
 refine T_pd [25] []<| T_e<| ar 2<| T_nw (some 7) (λb=>vp (pa b)) (.cells #[vi 0,vi 0,vu 0,vs none 0 0,vs none 0 0] 61) ?_
 intro a0 H5 e8 e9
 replace h:=h a0 H5 e8 e9
 refine T_pd [] [(7,vp (pa a0))]<| T_e<| T_sz<| ar 3<| T_ed 3 [1] [(26,vs ae p u),(27,vi p),(28,vi 0)]<| T_bz 0 ?_
 obtain⟨gi,m13,i10,i11⟩:=h
 refine dE (x:=K12) (σ:=Int) (λs_=> [(2,vp (pa b)),(5,vs ai d m),(6,vp (pa l)),(7,vp (pa a0)),(26,vs ae p u),(27,vi p),(28,vi s_)]) (λs_ H=>gi s_ H) (λs_ H=>m13 s_ H) (0:Int) (by kernel_rfl) i10 sk ?_
 rintro an H6 i12
 have h:=i11 an H6 i12
 refine T_su [(2,vp (pa b)),(5,vs ai d m),(6,vp (pa l)),(7,vp (pa a0)),(26,vs ae p u),(27,vi p),(28,vi an)]<| ar 4<| T_ed 1 [] [(29,.bool (decide (an< (p:Int))))]<| T_sz ?_
 by_cases c13:an< (p:Int)
 ·rw[if_pos c13]at h
  refine aL 29 (zX c13)<| T_kt<| T_sz<| T_bz 1<| ar 5<| T_ud [29] [] ?_
  obtain⟨ag,rfl,q15,h⟩:=h
  refine T_xd (some 30) 29 40 1 ag p u .i64 an Tryz.underlying29 q15.1 q15.2 [26] [(26,vs (some ag) p u),(30,vp (some (ag.add (Int.toNat an*1))))] ?_
  obtain⟨bk,q16,h⟩:=h
  refine T_l1 31 40 q16 [30]<| T_ed 1 [31] [(9,vu bk)]<| T_rz 6<| T_nd 1 [] [(32,vu bk)] ?_
  obtain⟨f5,q17,h⟩:=h
  refine T_l1 33 100 q17 []<| T_nd 1 [9] [(34,vu bk)] ?_
  obtain⟨mr,rfl,es,cl,ks,q18,q19,f7,e21,h⟩:=h
  refine T_v1 35 (gV 100 (.map (some mr)) (vu bk) false) (vi f7) (λw hw=>(fT (kk:=(bT .u64)) (z:=vi 0) Tryz.underlying100 Tryz.underlying40 (λ_=>by kernel_rfl) (by rw[hw];exact q18) q19 false).trans (by simp only[if_true,Bool.false_eq_true,if_false,e21])) [33,34]<| T_c (some 36) h ?_;clear h
  intro v_2 H7 h
  exact T_pd [32,35] []<| zq<| aA<| aE<| T_rz 7<| T_ed 2 [28] [(28,vi (zY (an+1)))]<| bK ((zY (an+1)):Int) sk h
 rw[if_neg c13]at h
 refine aM 29 (zQ c13)<| zk 0<| aD<| aD<| aQ<| aE<| ar 8<| T_ud [26,27,28,29] [] ?_
 obtain⟨e3,dn,dp,bl,bu,bm,e0,em,fo,q23,h⟩:=h
 refine T_lr 38 61 q23 [7]<| T_nw (some 39) (λb=>vs (pa b) 1 1) (.cells #[vi e3,vi dn,vu dp,vs bl bu bm,vs e0 em fo] 61) ?_
 intro fv H8 e24 e25
 replace h:=h fv H8 e24 e25
 refine T_pd [38] [(39,vs (pa fv) 1 1)]<| T_ed 1 [39] [(10,vs (pa fv) 1 1)]<| T_sz<| ar 9<| T_ed 3 [5] [(40,vs ai d m),(41,vi d),(42,vi 0)]<| T_bz 2 ?_
 obtain⟨c5,m32,i26,i27⟩:=h
 refine mw (x:=K31) (σ:=zW×Nat×Nat×Int×(List Nat)) (λs_=> [(2,vp (pa b)),(6,vp (pa l)),(10,vs s_.1 s_.2.1 s_.2.2.1),(40,vs ai d m),(41,vi d),(42,vi s_.2.2.2.1)]) (λs_=>s_.2.2.2.2) (λs_ H=>c5 s_.1 s_.2.1 s_.2.2.1 s_.2.2.2.1 s_.2.2.2.2 H) (λs_ H=>m32 s_.1 s_.2.1 s_.2.2.1 s_.2.2.2.1 s_.2.2.2.2 H) (((pa fv),1,1,0,([])):zW×Nat×Nat×Int×(List Nat)) (by kernel_rfl) i26 sk ?_
 rintro⟨f,outN,outC,s42,ms⟩ H9 i28
 have h:=i27 f outN outC s42 ms H9 i28
 refine T_su [(2,vp (pa b)),(6,vp (pa l)),(10,vs f outN outC),(40,vs ai d m),(41,vi d),(42,vi s42)]<| ar 10<| T_ed 1 [] [(43,.bool (decide (s42< (d:Int))))]<| T_sz ?_
 by_cases c29:s42< (d:Int)
 ·rw[if_pos c29]at h
  refine aL 43 (zX c29)<| T_kt<| T_sz<| T_bz 3<| ar 11<| T_ud [43] [] ?_
  obtain⟨j,rfl,q31,h⟩:=h
  refine T_xd (some 44) 29 40 1 j d m .i64 s42 Tryz.underlying29 q31.1 q31.2 [40] [(40,vs (some j) d m),(44,vp (some (j.add (Int.toNat s42*1))))] ?_
  obtain⟨ei,q32,h⟩:=h
  refine T_l1 45 40 q32 [44]<| T_nw (some 12) (λb=>vp (pa b)) (.cells #[vu 0] 40) ?_
  intro e H10 e33 e34
  replace h:=h e H10 e33 e34
  refine T_pd [] [(12,vp (pa e))] ?_
  obtain⟨q36,h⟩:=h
  refine fB 40 (vu ei) q36 ?_
  intro di e35
  replace h:=h di e35
  refine T_pd [45] []<| T_e<| T_sz ?_
  obtain⟨bz,q37,a4,q38,a5,q39,av,q40,ah,q41,h⟩:=h
  refine yq 12 (Code.ops K43) [(1,(ad e),[vu bz]),(4,(ad b),[vp a4]),(4,(ad e),[vu a5]),(7,(ad b),[vp av]),(7,(ad e),[vu ah])] 11 (bv 11 0) (show aJ _ _ _ from⟨⟨q37,trivial⟩,⟨q38,trivial⟩,⟨q39,trivial⟩,⟨q40,trivial⟩,⟨q41,trivial⟩,trivial⟩)<| T_g 0 (some 46) (vu bz) (bv 11 1) [(2,vp (pa b)),(6,vp (pa l)),(10,vs f outN outC),(12,vp (pa e)),(40,vs (some j) d m),(41,vi d),(42,vi s42),(46,vu bz)] (bH 40 (vp (pa e))) (yY 1 yX)<| T_g1 2 48 (vp a4) (bv 11 5) [] (bH 28 (vp (pa b))) (yY 4 yQ)<| T_g1 3 49 (vu a5) (bv 11 13) [] (bH 40 (vp (pa e))) (yY 4 yJ)<| T_g1 5 51 (vp av) (bv 11 45) [] (bH 28 (vp (pa b))) (yY 7 yK)<| T_g1 6 52 (vu ah) (bv 11 109) [] (bH 40 (vp (pa e))) (yY 7 yV) ?_
  refine mx 1 9 (by kernel_rfl) ?_ ?_
  ·replace h:=h.1
   refine nB 1 (some 47) (bv 11 111) 46 #[vu bz] (by kernel_rfl) (λ_=>by kernel_rfl) h (by kernel_rfl) ?_;clear h
   rintro jh fp ⟨af,rfl,f42,f43,f44,f45,h⟩
   refine⟨[(2,vp (pa b)),(6,vp (pa l)),(10,vs f outN outC),(12,vp (pa e)),(40,vs (some j) d m),(41,vi d),(42,vi s42),(47,vi af),(48,vp a4),(49,vu a5),(51,vp av),(52,vu ah)],pk,(show aJ _ _ _ from⟨trivial,f42,f43,f44,f45,trivial⟩),?_⟩
   refine mx 4 9 (by kernel_rfl) ?_ ?_
   ·replace h:=h.1
    refine nB 4 (some 50) (bv 11 127) 47 #[vp a4,vu a5] (by kernel_rfl) (λ_=>by kernel_rfl) h (by kernel_rfl) ?_;clear h
    rintro jk f8 ⟨aw,rfl,f46,f47,h⟩
    refine⟨[(2,vp (pa b)),(6,vp (pa l)),(10,vs f outN outC),(12,vp (pa e)),(40,vs (some j) d m),(41,vi d),(42,vi s42),(47,vi af),(50,vi aw),(51,vp av),(52,vu ah)],pk,(show aJ _ _ _ from⟨trivial,trivial,trivial,f46,f47,trivial⟩),?_⟩
    refine mx 7 9 (by kernel_rfl) ?_ ?_
    ·replace h:=h.1
     refine nB 7 (some 53) (bv 11 255) 48 #[vp av,vu ah] (by kernel_rfl) (λ_=>by kernel_rfl) h (by kernel_rfl) ?_;clear h
     rintro jd ht ⟨b2,rfl,h⟩
     refine⟨[(2,vp (pa b)),(6,vp (pa l)),(10,vs f outN outC),(12,vp (pa e)),(40,vs (some j) d m),(41,vi d),(42,vi s42),(47,vi af),(50,vi aw),(53,vu b2)],pk,(show aJ _ _ _ from⟨trivial,trivial,trivial,trivial,trivial,trivial⟩),?_⟩
     refine T_g 8 (some 54) (.agg #[vi af,vi aw,vu b2,vs none 0 0,vs none 0 0]) (bv 11 511) [(2,vp (pa b)),(6,vp (pa l)),(10,vs f outN outC),(12,vp (pa e)),(40,vs (some j) d m),(41,vi d),(42,vi s42),(54,.agg #[vi af,vi aw,vu b2,vs none 0 0,vs none 0 0])] (pure (.value (.agg #[vi af,vi aw,vu b2,vs none 0 0,vs none 0 0])):Sem Next) (λ_ _ _ _ _=>rfl)<| mP 9 (some 13) (bv 11 1023) (λb=>vp (pa b)) (.cells #[vi 0,vi 0,vu 0,vs none 0 0,vs none 0 0] 61) (by kernel_rfl) (λ_=>by kernel_rfl) (by kernel_rfl) ?_
     intro r H15 e48 e49
     replace h:=h r H15 e48 e49
     refine⟨[(2,vp (pa b)),(6,vp (pa l)),(10,vs f outN outC),(12,vp (pa e)),(13,vp (pa r)),(40,vs (some j) d m),(41,vi d),(42,vi s42),(54,.agg #[vi af,vi aw,vu b2,vs none 0 0,vs none 0 0])],pk,(show aJ _ _ _ from⟨trivial,trivial,trivial,trivial,trivial,trivial⟩),?_⟩
     obtain⟨q51,h⟩:=h
     refine fR 10 none (bv 11 2047) (gL 61 (vp (pa r)) (.agg #[vi af,vi aw,vu b2,vs none 0 0,vs none 0 0])) (λHz=>Hz=aU H15 (ad r) [vi af,vi aw,vu b2,vs none 0 0,vs none 0 0] 0) (by kernel_rfl) (λ_=>by kernel_rfl) (go [vi af,vi aw,vu b2,vs none 0 0,vs none 0 0] 5 (by kernel_rfl) (by kernel_rfl) (λ_=>by kernel_rfl) (by kernel_rfl) q51) (by kernel_rfl) ?_
     intro f6 e50
     replace h:=h f6 e50
     refine⟨[(2,vp (pa b)),(6,vp (pa l)),(10,vs f outN outC),(12,vp (pa e)),(13,vp (pa r)),(40,vs (some j) d m),(41,vi d),(42,vi s42)],pk,(show aJ _ _ _ from⟨trivial,trivial,trivial,trivial,trivial,trivial⟩),?_⟩
     refine gT [(2,vp (pa b)),(6,vp (pa l)),(10,vs f outN outC),(12,vp (pa e)),(13,vp (pa r)),(40,vs (some j) d m),(41,vi d),(42,vi s42)] sk ?_
     refine yz<| aE<| T_sz<| ar 13 ?_
     obtain⟨du,q52,h⟩:=h
     refine T_l (some 55) 28 q52 [(2,vp (pa b)),(6,vp (pa l)),(10,vs f outN outC),(12,vp (pa e)),(13,vp (pa r)),(40,vs (some j) d m),(41,vi d),(42,vi s42),(55,vp du)] ?_
     obtain⟨ey,q53,h⟩:=h
     refine T_l1 56 40 q53 []<| T_c (some 57) h ?_;clear h
     rintro fw f0 ⟨-,h⟩
     refine T_pd [55,56] [(57,fw)]<| T_e<| T_bz 4<| iO (g:=.tmp 57) (ps:= #[58,59]) (assign:=K50) (body:=K51) (fw) (by kernel_rfl) (by kernel_rfl) (by kernel_rfl) ?_
     intro rc lp H18 r54 e55 e56 y57
     refine FE.mono (h rc lp H18 e55 e56 (.func (.yield lp) #[] #[]) ?_) ?_
     ·clear h
      intro aj x_18 H19 vRy q58 h
      refine y57 #[vi aj,vu x_18] H19 vRy (by kernel_rfl) q58 (λw1x=>?_)
      refine T_sd [] [(58,vi aj),(59,vu x_18)]<| ar 14<| T_ed 1 [10,40,41,42,57,58] [(14,vi aj)]<| T_rz 15<| T_nd 1 [59] [(15,vu x_18)]<| zq ?_
      obtain⟨q60,h⟩:=h
      refine aE<| iN r54 q60 ?_
      intro fs e59
      replace h:=h fs e59
      refine T_bz 5<| ar 16 ?_
      obtain⟨ev,q61,h⟩:=h
      refine T_l1 60 100 q61 [6]<| T_nd 1 [] [(61,vu x_18)] ?_
      obtain⟨gd,rfl,gv,cl_2,ks_2,q62,q63,ab,e81,h⟩:=h
      refine T_v1 62 (gV 100 (.map (some gd)) (vu x_18) false) (vi ab) (λw hw=>(fT (kk:=(bT .u64)) (z:=vi 0) Tryz.underlying100 Tryz.underlying40 (λ_=>by kernel_rfl) (by rw[hw];exact q62) q63 false).trans (by simp only[if_true,Bool.false_eq_true,if_false,e81])) [60,61]<| T_ed 1 [62] [(16,vi ab)]<| T_sz<| ar 17<| T_nd 3 [] [(65,.bool (ab==0))] ?_
      by_cases c65:ab=0
      ·rw[if_pos c65]at h
       refine N_bd 65 (zK c65) ?_
       obtain⟨fl,q67,h⟩:=h
       refine T_l1 66 40 q67 []<| T_c (some 67) h ?_;clear h
       rintro jj hb ⟨dm,rfl,h⟩
       refine T_pd [66] [(67,vi dm)]<| T_nd 3 [65,67] [(70,.bool (dm==2))] ?_
       by_cases c68:dm=2
       ·rw[if_pos c68]at h
        refine N_bd 70 (zK c68)<| T_nd 1 [14] [(71,vi aj)] ?_
        obtain⟨fm,q70,h⟩:=h
        refine T_l1 72 40 q70 [12]<| T_c (some 73) h ?_;clear h
        rintro ji g7 ⟨c8,rfl,h⟩
        refine T_pd [72] [(73,vi c8)]<| T_nd 3 [70,71,73] [(76,.bool (aj==c8))] ?_
        by_cases c71:aj=c8
        ·rw[if_pos c71]at h
         refine N_bd 76 (zK c71) ?_
         obtain⟨ef,q73,h⟩:=h
         refine T_l1 77 28 q73 [2]<| T_nd 1 [] [(78,vu x_18)]<| T_c (some 79) h ?_;clear h
         rintro jl h3 ⟨da,rfl,h⟩
         refine T_pd [77,78] [(79,vi da)]<| T_ed 2 [76,79] [(81,.bool (decide (da>0)))] ?_
         by_cases c74:da>0
         ·rw[if_pos c74]at h
          refine aL 81 (zX c74)<| T_rz 18<| T_ed 1 [16,81] [(16,vi (-1))]<| T_rz 19<| T_nd 2 [15,16] [(82,vu x_18),(83,vi (-1))]<| T_c (some 84) h ?_;clear h
          intro v_10 i7 h
          refine⟨[],pk,?_⟩
          refine zq<| aA ?_
          obtain⟨q76,h⟩:=h
          exact bG r54 q76 h
         rw[if_neg c74]at h
         refine aM 81 (zQ c74)<| T_kt<| T_rz 19<| T_nd 2 [15,16,81] [(82,vu x_18),(83,vi ab)]<| T_c (some 84) h ?_;clear h
         intro v_11 h6 h
         refine⟨[],pk,?_⟩
         refine zq<| aA ?_
         obtain⟨q77,h⟩:=h
         exact bG r54 q77 h
        rw[if_neg c71]at h
        refine N_bd 76 (zJ c71)<| T_ed 5 [2,76] [(81,.bool false)]<| T_fz 81<| T_kt<| T_rz 19<| T_nd 2 [15,16,81] [(82,vu x_18),(83,vi ab)] ?_
        refine T_c (some 84) h ?_;clear h
        intro v_12 jb h
        refine⟨[],pk,?_⟩
        refine zq<| aA ?_
        obtain⟨q78,h⟩:=h
        exact bG r54 q78 h
       rw[if_neg c68]at h
       refine N_bd 70 (zJ c68)<| T_ed 11 [2,12,14,70] [(81,.bool false)]<| T_fz 81<| T_kt<| T_rz 19<| T_nd 2 [15,16,81] [(82,vu x_18),(83,vi ab)] ?_
       refine T_c (some 84) h ?_;clear h
       intro v_13 h5 h
       refine⟨[],pk,?_⟩
       refine zq<| aA ?_
       obtain⟨q79,h⟩:=h
       exact bG r54 q79 h
      rw[if_neg c65]at h
      refine N_bd 65 (zJ c65)<| T_ed 16 [2,12,14,65] [(81,.bool false)]<| T_fz 81<| T_kt<| T_rz 19<| T_nd 2 [15,16,81] [(82,vu x_18),(83,vi ab)] ?_
      refine T_c (some 84) h ?_;clear h
      intro v_14 hg h
      refine⟨[],pk,?_⟩
      refine zq<| aA ?_
      obtain⟨q80,h⟩:=h
      exact bG r54 q80 h
     clear h y57
     rintro _ h2 (⟨q83,h⟩)
     refine .inl ⟨q83,λha e99=>?_⟩
     replace h:=h ha e99
     refine gR (f0.size::ms) rfl ?_
     refine T_sd [57] []<| aA<| aE<| T_sz<| ar 20<| T_ed 1 [] [(17,vi 0)]<| T_bz 6 ?_
     obtain⟨gj,m69,i84,i85⟩:=h
     refine dE (x:=K68) (σ:=Int) (λs_=> [(2,vp (pa b)),(6,vp (pa l)),(10,vs f outN outC),(12,vp (pa e)),(13,vp (pa r)),(17,vi s_),(40,vs (some j) d m),(41,vi d),(42,vi s42)]) (λs_ H=>gj s_ H) (λs_ H=>m69 s_ H) (0:Int) (by kernel_rfl) i84 sk ?_
     rintro i H31 i86
     have h:=i85 i H31 i86
     refine T_su [(2,vp (pa b)),(6,vp (pa l)),(10,vs f outN outC),(12,vp (pa e)),(13,vp (pa r)),(17,vi i),(40,vs (some j) d m),(41,vi d),(42,vi s42)]<| T_sz<| T_sz ?_
     obtain⟨xB,xN,xC,q87,dl,q88,d3,q89,h⟩:=h
     refine yq 21 (Code.ops K71) [(7,((ad r).add 3),[vs xB xN xC]),(5,(ad b),[vp dl]),(5,(ad e),[vu d3])] 7 (bv 7 0) (show aJ _ _ _ from⟨⟨q87,trivial⟩,⟨q88,trivial⟩,⟨q89,trivial⟩,trivial⟩)<| T_gp 0 (some 85) (vp (some ((ad r).add 3))) (bv 7 1) [(2,vp (pa b)),(6,vp (pa l)),(10,vs f outN outC),(12,vp (pa e)),(13,vp (pa r)),(17,vi i),(40,vs (some j) d m),(41,vi d),(42,vi s42),(85,vp (some ((ad r).add 3)))]<| T_g1 1 86 (vs xB xN xC) (bv 7 3) [85] (bH 29 (vp (some ((ad r).add 3)))) (jT 7 (λ_=>by kernel_rfl) yX (.inr (by kernel_rfl)))<| bM 2 87 (vi xN) (bv 7 7) [86]<| T_g1 3 88 (vp dl) (bv 7 15) [] (bH 28 (vp (pa b))) (yY 5 yQ)<| T_g1 4 89 (vu d3) (bv 7 31) [] (bH 40 (vp (pa e))) (yY 5 yJ)<| yx 5 (some 90) (bv 7 63) 51 #[vp dl,vu d3] h ?_;clear h
     rintro i2 ej ⟨b4,rfl,f90,h⟩
     refine⟨[(2,vp (pa b)),(6,vp (pa l)),(10,vs f outN outC),(12,vp (pa e)),(13,vp (pa r)),(17,vi i),(40,vs (some j) d m),(41,vi d),(42,vi s42),(87,vi xN),(90,vi b4)],pk,(show aJ _ _ _ from⟨f90,trivial,trivial,trivial⟩),?_⟩
     refine T_g 6 (some 91) (.bool (decide ((xN:Int)<b4))) (bv 7 127) [(2,vp (pa b)),(6,vp (pa l)),(10,vs f outN outC),(12,vp (pa e)),(13,vp (pa r)),(17,vi i),(40,vs (some j) d m),(41,vi d),(42,vi s42),(91,.bool (decide ((xN:Int)<b4)))] (pure (.value (.bool (decide ((xN:Int)<b4)))):Sem Next) (λ_ _ _ _ _=>rfl)<| gT [(2,vp (pa b)),(6,vp (pa l)),(10,vs f outN outC),(12,vp (pa e)),(13,vp (pa r)),(17,vi i),(40,vs (some j) d m),(41,vi d),(42,vi s42),(91,.bool (decide ((xN:Int)<b4)))] sk<| yz<| aE ?_
     by_cases c91:(xN:Int)<b4
     ·rw[if_pos c91]at h
      refine aL 91 (zX c91)<| T_kt<| T_sz<| T_bz 7<| ar 23<| T_nu [(2,vp (pa b)),(6,vp (pa l)),(10,vs f outN outC),(12,vp (pa e)),(13,vp (pa r)),(17,vi i),(40,vs (some j) d m),(41,vi d),(42,vi s42)] ?_
      obtain⟨cc,q93,h⟩:=h
      refine T_l1 95 28 q93 [] ?_
      obtain⟨c2,q94,h⟩:=h
      refine T_l1 96 40 q94 []<| T_nd 1 [] [(97,vp (some ((ad r).add 1)))] ?_
      obtain⟨d0,q95,h⟩:=h
      refine T_l1 98 3 q95 [97]<| T_nd 1 [] [(99,vi i)]<| T_c (some 100) h ?_;clear h
      rintro h9 jf ⟨ra,gk,rfl,h⟩
      refine T_pd [95,96,98,99] [(100,.tuple #[vu ra,vi gk])]<| T_ed 5 [100] [(18,vu ra)]<| T_rz 24<| T_nd 1 [18] [(103,vu ra)]<| T_c (some 104) h ?_;clear h
      intro v_17 hq h
      exact T_pd [103] []<| zq<| aA<| aE<| T_rz 22<| T_ed 3 [17] [(17,vi (zY (i+1)))]<| bK ((zY (i+1)):Int) sk h
     rw[if_neg c91]at h
     refine aM 91 (zQ c91)<| zk 6<| aD<| aD<| aQ<| aE<| T_rz 25<| T_n 1 [(2,vp (pa b)),(6,vp (pa l)),(13,vp (pa r)),(40,vs (some j) d m),(41,vi d),(42,vi s42),(105,vs f outN outC)] ?_
     obtain⟨cs,bw,br,bd,a8,a6,co,cg,cw,q96,h⟩:=h
     refine T_lr 106 61 q96 [13]<| T_nw (some 107) (λb=>vs (pa b) 1 1) (.cells #[vi cs,vi bw,vu br,vs bd a8 a6,vs co cg cw] 61) ?_
     intro gb H35 e97 e98
     replace h:=h gb H35 e97 e98
     refine T_pd [106] [(107,vs (pa gb) 1 1)]<| N_op (some 108) (eJ #[22,22] 22 #[vs f outN outC,vs (pa gb) 1 1]) _ (λ_=>by kernel_rfl) (dM (T:=61) (sz:=5) (bytes:=72) (zero:=(.agg #[vi 0,vi 0,vu 0,vs none 0 0,vs none 0 0]:Value)) Tryz.underlying22 Tryz.underlying22 rfl (show Tryz.prog.info? 61=some Tryz.t61 from by kernel_rfl) (by kernel_rfl) (by kernel_rfl) (by decide) (by kernel_rfl) (by first | exact h | (simpa only[Value.cells,List.toList_toArray]using h))) ?_;clear h
     rintro _ iq ⟨ap,fy,rfl,h⟩
     exact T_pd [105,107] [(108,vs ap (outN+1) fy)]<| T_nd 1 [108] [(10,vs ap (outN+1) fy)]<| zq<| aA<| aE<| T_rz 26<| T_ed 2 [42] [(42,vi (zY (s42+1)))]<| js (mk:=(λs_=>s_.2.2.2.2)) (I:=(λs_ H=>c5 s_.1 s_.2.1 s_.2.2.1 s_.2.2.2.1 s_.2.2.2.2 H)) (μ:=(λs_ H=>m32 s_.1 s_.2.1 s_.2.2.1 s_.2.2.2.1 s_.2.2.2.2 H)) (s:=(_,_,_,_,_)) ((ap,(outN+1),fy,(zY (s42+1)),(f0.size::ms)):zW×Nat×Nat×Int×(List Nat)) sk h
    replace h:=h.2
    refine mQ 9 (some 13) (bv 11 639) (λb=>vp (pa b)) (.cells #[vi 0,vi 0,vu 0,vs none 0 0,vs none 0 0] 61) (by kernel_rfl) (λ_=>by kernel_rfl) (by kernel_rfl) ?_
    intro q H37 e102 e103
    replace h:=h q H37 e102 e103
    obtain⟨f100,f101,h⟩:=h
    refine⟨[(2,vp (pa b)),(6,vp (pa l)),(10,vs f outN outC),(12,vp (pa e)),(13,vp (pa q)),(40,vs (some j) d m),(41,vi d),(42,vi s42),(47,vi af),(50,vi aw),(51,vp av),(52,vu ah)],pk,(show aJ _ _ _ from⟨trivial,trivial,trivial,f100,f101,trivial⟩),?_⟩
    refine yx 7 (some 53) (bv 11 767) 48 #[vp av,vu ah] h ?_;clear h
    rintro iv g5 ⟨ce,rfl,h⟩
    refine⟨[(2,vp (pa b)),(6,vp (pa l)),(10,vs f outN outC),(12,vp (pa e)),(13,vp (pa q)),(40,vs (some j) d m),(41,vi d),(42,vi s42),(47,vi af),(50,vi aw),(53,vu ce)],pk,(show aJ _ _ _ from⟨trivial,trivial,trivial,trivial,trivial,trivial⟩),?_⟩
    refine T_g 8 (some 54) (.agg #[vi af,vi aw,vu ce,vs none 0 0,vs none 0 0]) (bv 11 1023) [(2,vp (pa b)),(6,vp (pa l)),(10,vs f outN outC),(12,vp (pa e)),(13,vp (pa q)),(40,vs (some j) d m),(41,vi d),(42,vi s42),(54,.agg #[vi af,vi aw,vu ce,vs none 0 0,vs none 0 0])] (pure (.value (.agg #[vi af,vi aw,vu ce,vs none 0 0,vs none 0 0])):Sem Next) (λ_ _ _ _ _=>rfl) ?_
    obtain⟨q105,h⟩:=h
    refine fR 10 none (bv 11 2047) (gL 61 (vp (pa q)) (.agg #[vi af,vi aw,vu ce,vs none 0 0,vs none 0 0])) (λHz=>Hz=aU g5 (ad q) [vi af,vi aw,vu ce,vs none 0 0,vs none 0 0] 0) (by kernel_rfl) (λ_=>by kernel_rfl) (go [vi af,vi aw,vu ce,vs none 0 0,vs none 0 0] 5 (by kernel_rfl) (by kernel_rfl) (λ_=>by kernel_rfl) (by kernel_rfl) q105) (by kernel_rfl) ?_
    intro f3 e104
    replace h:=h f3 e104
    refine⟨[(2,vp (pa b)),(6,vp (pa l)),(10,vs f outN outC),(12,vp (pa e)),(13,vp (pa q)),(40,vs (some j) d m),(41,vi d),(42,vi s42)],pk,(show aJ _ _ _ from⟨trivial,trivial,trivial,trivial,trivial,trivial⟩),?_⟩
    refine gT [(2,vp (pa b)),(6,vp (pa l)),(10,vs f outN outC),(12,vp (pa e)),(13,vp (pa q)),(40,vs (some j) d m),(41,vi d),(42,vi s42)] sk ?_
    refine yz<| aE<| T_sz<| ar 13 ?_
    obtain⟨eb,q106,h⟩:=h
    refine T_l (some 55) 28 q106 [(2,vp (pa b)),(6,vp (pa l)),(10,vs f outN outC),(12,vp (pa e)),(13,vp (pa q)),(40,vs (some j) d m),(41,vi d),(42,vi s42),(55,vp eb)] ?_
    obtain⟨el,q107,h⟩:=h
    refine T_l1 56 40 q107 []<| T_c (some 57) h ?_;clear h
    rintro dz fx ⟨-,h⟩
    refine T_pd [55,56] [(57,dz)]<| T_e<| T_bz 4<| iO (g:=.tmp 57) (ps:= #[58,59]) (assign:=K50) (body:=K51) (dz) (by kernel_rfl) (by kernel_rfl) (by kernel_rfl) ?_
    intro a2 lp_2 H41 r108 e109 e110 y111
    refine FE.mono (h a2 lp_2 H41 e109 e110 (.func (.yield lp_2) #[] #[]) ?_) ?_
    ·clear h
     intro ak x_38 H42 vRy_2 q112 h
     refine y111 #[vi ak,vu x_38] H42 vRy_2 (by kernel_rfl) q112 (λw1x_2=>?_)
     refine T_sd [] [(58,vi ak),(59,vu x_38)]<| ar 14<| T_ed 1 [10,40,41,42,57,58] [(14,vi ak)]<| T_rz 15<| T_nd 1 [59] [(15,vu x_38)]<| zq ?_
     obtain⟨q114,h⟩:=h
     refine aE<| iN r108 q114 ?_
     intro fq e113
     replace h:=h fq e113
     refine T_bz 5<| ar 16 ?_
     obtain⟨ew,q115,h⟩:=h
     refine T_l1 60 100 q115 [6]<| T_nd 1 [] [(61,vu x_38)] ?_
     obtain⟨gg,rfl,gx,cl_3,ks_3,q116,q117,ac,e135,h⟩:=h
     refine T_v1 62 (gV 100 (.map (some gg)) (vu x_38) false) (vi ac) (λw hw=>(fT (kk:=(bT .u64)) (z:=vi 0) Tryz.underlying100 Tryz.underlying40 (λ_=>by kernel_rfl) (by rw[hw];exact q116) q117 false).trans (by simp only[if_true,Bool.false_eq_true,if_false,e135])) [60,61]<| T_ed 1 [62] [(16,vi ac)]<| T_sz<| ar 17<| T_nd 3 [] [(65,.bool (ac==0))] ?_
     by_cases c119:ac=0
     ·rw[if_pos c119]at h
      refine N_bd 65 (zK c119) ?_
      obtain⟨et,q121,h⟩:=h
      refine T_l1 66 40 q121 []<| T_c (some 67) h ?_;clear h
      rintro ja hd ⟨df,rfl,h⟩
      refine T_pd [66] [(67,vi df)]<| T_nd 3 [65,67] [(70,.bool (df==2))] ?_
      by_cases c122:df=2
      ·rw[if_pos c122]at h
       refine N_bd 70 (zK c122)<| T_nd 1 [14] [(71,vi ak)] ?_
       obtain⟨e7,q124,h⟩:=h
       refine T_l1 72 40 q124 [12]<| T_c (some 73) h ?_;clear h
       rintro io g3 ⟨dd,rfl,h⟩
       refine T_pd [72] [(73,vi dd)]<| T_nd 3 [70,71,73] [(76,.bool (ak==dd))] ?_
       by_cases c125:ak=dd
       ·rw[if_pos c125]at h
        refine N_bd 76 (zK c125) ?_
        obtain⟨d4,q127,h⟩:=h
        refine T_l1 77 28 q127 [2]<| T_nd 1 [] [(78,vu x_38)]<| T_c (some 79) h ?_;clear h
        rintro ig i6 ⟨de,rfl,h⟩
        refine T_pd [77,78] [(79,vi de)]<| T_ed 2 [76,79] [(81,.bool (decide (de>0)))] ?_
        by_cases c128:de>0
        ·rw[if_pos c128]at h
         refine aL 81 (zX c128)<| T_rz 18<| T_ed 1 [16,81] [(16,vi (-1))]<| T_rz 19<| T_nd 2 [15,16] [(82,vu x_38),(83,vi (-1))]<| T_c (some 84) h ?_;clear h
         intro v_23 ik h
         refine⟨[],pk,?_⟩
         refine zq<| aA ?_
         obtain⟨q130,h⟩:=h
         exact bG r108 q130 h
        rw[if_neg c128]at h
        refine aM 81 (zQ c128)<| T_kt<| T_rz 19<| T_nd 2 [15,16,81] [(82,vu x_38),(83,vi ac)]<| T_c (some 84) h ?_;clear h
        intro v_24 ii h
        refine⟨[],pk,?_⟩
        refine zq<| aA ?_
        obtain⟨q131,h⟩:=h
        exact bG r108 q131 h
       rw[if_neg c125]at h
       refine N_bd 76 (zJ c125)<| T_ed 5 [2,76] [(81,.bool false)]<| T_fz 81<| T_kt<| T_rz 19<| T_nd 2 [15,16,81] [(82,vu x_38),(83,vi ac)] ?_
       refine T_c (some 84) h ?_;clear h
       intro v_25 he h
       refine⟨[],pk,?_⟩
       refine zq<| aA ?_
       obtain⟨q132,h⟩:=h
       exact bG r108 q132 h
      rw[if_neg c122]at h
      refine N_bd 70 (zJ c122)<| T_ed 11 [2,12,14,70] [(81,.bool false)]<| T_fz 81<| T_kt<| T_rz 19<| T_nd 2 [15,16,81] [(82,vu x_38),(83,vi ac)] ?_
      refine T_c (some 84) h ?_;clear h
      intro v_26 iz h
      refine⟨[],pk,?_⟩
      refine zq<| aA ?_
      obtain⟨q133,h⟩:=h
      exact bG r108 q133 h
     rw[if_neg c119]at h
     refine N_bd 65 (zJ c119)<| T_ed 16 [2,12,14,65] [(81,.bool false)]<| T_fz 81<| T_kt<| T_rz 19<| T_nd 2 [15,16,81] [(82,vu x_38),(83,vi ac)] ?_
     refine T_c (some 84) h ?_;clear h
     intro v_27 hz h
     refine⟨[],pk,?_⟩
     refine zq<| aA ?_
     obtain⟨q134,h⟩:=h
     exact bG r108 q134 h
    clear h y111
    rintro _ ir (⟨q137,h⟩)
    refine .inl ⟨q137,λg1 e153=>?_⟩
    replace h:=h g1 e153
    refine gR (fx.size::ms) rfl ?_
    refine T_sd [57] []<| aA<| aE<| T_sz<| ar 20<| T_ed 1 [] [(17,vi 0)]<| T_bz 6 ?_
    obtain⟨bi,m80,i138,i139⟩:=h
    refine dE (x:=K68) (σ:=Int) (λs_=> [(2,vp (pa b)),(6,vp (pa l)),(10,vs f outN outC),(12,vp (pa e)),(13,vp (pa q)),(17,vi s_),(40,vs (some j) d m),(41,vi d),(42,vi s42)]) (λs_ H=>bi s_ H) (λs_ H=>m80 s_ H) (0:Int) (by kernel_rfl) i138 sk ?_
    rintro au H54 i140
    have h:=i139 au H54 i140
    refine T_su [(2,vp (pa b)),(6,vp (pa l)),(10,vs f outN outC),(12,vp (pa e)),(13,vp (pa q)),(17,vi au),(40,vs (some j) d m),(41,vi d),(42,vi s42)]<| T_sz<| T_sz ?_
    obtain⟨ep,az,ez,q141,dc,q142,dr,q143,h⟩:=h
    refine yq 21 (Code.ops K71) [(7,((ad q).add 3),[vs ep az ez]),(5,(ad b),[vp dc]),(5,(ad e),[vu dr])] 7 (bv 7 0) (show aJ _ _ _ from⟨⟨q141,trivial⟩,⟨q142,trivial⟩,⟨q143,trivial⟩,trivial⟩)<| T_gp 0 (some 85) (vp (some ((ad q).add 3))) (bv 7 1) [(2,vp (pa b)),(6,vp (pa l)),(10,vs f outN outC),(12,vp (pa e)),(13,vp (pa q)),(17,vi au),(40,vs (some j) d m),(41,vi d),(42,vi s42),(85,vp (some ((ad q).add 3)))]<| T_g1 1 86 (vs ep az ez) (bv 7 3) [85] (bH 29 (vp (some ((ad q).add 3)))) (jT 7 (λ_=>by kernel_rfl) yX (.inr (by kernel_rfl)))<| bM 2 87 (vi az) (bv 7 7) [86]<| T_g1 3 88 (vp dc) (bv 7 15) [] (bH 28 (vp (pa b))) (yY 5 yQ)<| T_g1 4 89 (vu dr) (bv 7 31) [] (bH 40 (vp (pa e))) (yY 5 yJ)<| yx 5 (some 90) (bv 7 63) 51 #[vp dc,vu dr] h ?_;clear h
    rintro iy eh ⟨b1,rfl,f144,h⟩
    refine⟨[(2,vp (pa b)),(6,vp (pa l)),(10,vs f outN outC),(12,vp (pa e)),(13,vp (pa q)),(17,vi au),(40,vs (some j) d m),(41,vi d),(42,vi s42),(87,vi az),(90,vi b1)],pk,(show aJ _ _ _ from⟨f144,trivial,trivial,trivial⟩),?_⟩
    refine T_g 6 (some 91) (.bool (decide ((az:Int)<b1))) (bv 7 127) [(2,vp (pa b)),(6,vp (pa l)),(10,vs f outN outC),(12,vp (pa e)),(13,vp (pa q)),(17,vi au),(40,vs (some j) d m),(41,vi d),(42,vi s42),(91,.bool (decide ((az:Int)<b1)))] (pure (.value (.bool (decide ((az:Int)<b1)))):Sem Next) (λ_ _ _ _ _=>rfl)<| gT [(2,vp (pa b)),(6,vp (pa l)),(10,vs f outN outC),(12,vp (pa e)),(13,vp (pa q)),(17,vi au),(40,vs (some j) d m),(41,vi d),(42,vi s42),(91,.bool (decide ((az:Int)<b1)))] sk<| yz<| aE ?_
    by_cases c145:(az:Int)<b1
    ·rw[if_pos c145]at h
     refine aL 91 (zX c145)<| T_kt<| T_sz<| T_bz 7<| ar 23<| T_nu [(2,vp (pa b)),(6,vp (pa l)),(10,vs f outN outC),(12,vp (pa e)),(13,vp (pa q)),(17,vi au),(40,vs (some j) d m),(41,vi d),(42,vi s42)] ?_
     obtain⟨b7,q147,h⟩:=h
     refine T_l1 95 28 q147 [] ?_
     obtain⟨cz,q148,h⟩:=h
     refine T_l1 96 40 q148 []<| T_nd 1 [] [(97,vp (some ((ad q).add 1)))] ?_
     obtain⟨d5,q149,h⟩:=h
     refine T_l1 98 3 q149 [97]<| T_nd 1 [] [(99,vi au)]<| T_c (some 100) h ?_;clear h
     rintro it jg ⟨dx,gl,rfl,h⟩
     refine T_pd [95,96,98,99] [(100,.tuple #[vu dx,vi gl])]<| T_ed 5 [100] [(18,vu dx)]<| T_rz 24<| T_nd 1 [18] [(103,vu dx)]<| T_c (some 104) h ?_;clear h
     intro v_30 ho h
     exact T_pd [103] []<| zq<| aA<| aE<| T_rz 22<| T_ed 3 [17] [(17,vi (zY (au+1)))]<| bK ((zY (au+1)):Int) sk h
    rw[if_neg c145]at h
    refine aM 91 (zQ c145)<| zk 6<| aD<| aD<| aQ<| aE<| T_rz 25<| T_n 1 [(2,vp (pa b)),(6,vp (pa l)),(13,vp (pa q)),(40,vs (some j) d m),(41,vi d),(42,vi s42),(105,vs f outN outC)] ?_
    obtain⟨cn,bt,bp,bc,bh,a7,cv,cm,cp,q150,h⟩:=h
    refine T_lr 106 61 q150 [13]<| T_nw (some 107) (λb=>vs (pa b) 1 1) (.cells #[vi cn,vi bt,vu bp,vs bc bh a7,vs cv cm cp] 61) ?_
    intro f4 H58 e151 e152
    replace h:=h f4 H58 e151 e152
    refine T_pd [106] [(107,vs (pa f4) 1 1)]<| N_op (some 108) (eJ #[22,22] 22 #[vs f outN outC,vs (pa f4) 1 1]) _ (λ_=>by kernel_rfl) (dM (T:=61) (sz:=5) (bytes:=72) (zero:=(.agg #[vi 0,vi 0,vu 0,vs none 0 0,vs none 0 0]:Value)) Tryz.underlying22 Tryz.underlying22 rfl (show Tryz.prog.info? 61=some Tryz.t61 from by kernel_rfl) (by kernel_rfl) (by kernel_rfl) (by decide) (by kernel_rfl) (by first | exact h | (simpa only[Value.cells,List.toList_toArray]using h))) ?_;clear h
    rintro _ ib ⟨ec,cy,rfl,h⟩
    exact T_pd [105,107] [(108,vs ec (outN+1) cy)]<| T_nd 1 [108] [(10,vs ec (outN+1) cy)]<| zq<| aA<| aE<| T_rz 26<| T_ed 2 [42] [(42,vi (zY (s42+1)))]<| js (mk:=(λs_=>s_.2.2.2.2)) (I:=(λs_ H=>c5 s_.1 s_.2.1 s_.2.2.1 s_.2.2.2.1 s_.2.2.2.2 H)) (μ:=(λs_ H=>m32 s_.1 s_.2.1 s_.2.2.1 s_.2.2.2.1 s_.2.2.2.2 H)) (s:=(_,_,_,_,_)) ((ec,(outN+1),cy,(zY (s42+1)),(fx.size::ms)):zW×Nat×Nat×Int×(List Nat)) sk h
   replace h:=h.2
   refine mQ 9 (some 13) (bv 11 623) (λb=>vp (pa b)) (.cells #[vi 0,vi 0,vu 0,vs none 0 0,vs none 0 0] 61) (by kernel_rfl) (λ_=>by kernel_rfl) (by kernel_rfl) ?_
   intro o H60 e158 e159
   replace h:=h o H60 e158 e159
   obtain⟨f154,f155,f156,f157,h⟩:=h
   refine⟨[(2,vp (pa b)),(6,vp (pa l)),(10,vs f outN outC),(12,vp (pa e)),(13,vp (pa o)),(40,vs (some j) d m),(41,vi d),(42,vi s42),(47,vi af),(48,vp a4),(49,vu a5),(51,vp av),(52,vu ah)],pk,(show aJ _ _ _ from⟨trivial,f154,f155,f156,f157,trivial⟩),?_⟩
   refine yx 4 (some 50) (bv 11 639) 47 #[vp a4,vu a5] h ?_;clear h
   rintro i8 g2 ⟨bx,rfl,f160,f161,h⟩
   refine⟨[(2,vp (pa b)),(6,vp (pa l)),(10,vs f outN outC),(12,vp (pa e)),(13,vp (pa o)),(40,vs (some j) d m),(41,vi d),(42,vi s42),(47,vi af),(50,vi bx),(51,vp av),(52,vu ah)],pk,(show aJ _ _ _ from⟨trivial,trivial,trivial,f160,f161,trivial⟩),?_⟩
   refine yx 7 (some 53) (bv 11 767) 48 #[vp av,vu ah] h ?_;clear h
   rintro im g9 ⟨b6,rfl,h⟩
   refine⟨[(2,vp (pa b)),(6,vp (pa l)),(10,vs f outN outC),(12,vp (pa e)),(13,vp (pa o)),(40,vs (some j) d m),(41,vi d),(42,vi s42),(47,vi af),(50,vi bx),(53,vu b6)],pk,(show aJ _ _ _ from⟨trivial,trivial,trivial,trivial,trivial,trivial⟩),?_⟩
   refine T_g 8 (some 54) (.agg #[vi af,vi bx,vu b6,vs none 0 0,vs none 0 0]) (bv 11 1023) [(2,vp (pa b)),(6,vp (pa l)),(10,vs f outN outC),(12,vp (pa e)),(13,vp (pa o)),(40,vs (some j) d m),(41,vi d),(42,vi s42),(54,.agg #[vi af,vi bx,vu b6,vs none 0 0,vs none 0 0])] (pure (.value (.agg #[vi af,vi bx,vu b6,vs none 0 0,vs none 0 0])):Sem Next) (λ_ _ _ _ _=>rfl) ?_
   obtain⟨q163,h⟩:=h
   refine fR 10 none (bv 11 2047) (gL 61 (vp (pa o)) (.agg #[vi af,vi bx,vu b6,vs none 0 0,vs none 0 0])) (λHz=>Hz=aU g9 (ad o) [vi af,vi bx,vu b6,vs none 0 0,vs none 0 0] 0) (by kernel_rfl) (λ_=>by kernel_rfl) (go [vi af,vi bx,vu b6,vs none 0 0,vs none 0 0] 5 (by kernel_rfl) (by kernel_rfl) (λ_=>by kernel_rfl) (by kernel_rfl) q163) (by kernel_rfl) ?_
   intro f2 e162
   replace h:=h f2 e162
   refine⟨[(2,vp (pa b)),(6,vp (pa l)),(10,vs f outN outC),(12,vp (pa e)),(13,vp (pa o)),(40,vs (some j) d m),(41,vi d),(42,vi s42)],pk,(show aJ _ _ _ from⟨trivial,trivial,trivial,trivial,trivial,trivial⟩),?_⟩
   refine gT [(2,vp (pa b)),(6,vp (pa l)),(10,vs f outN outC),(12,vp (pa e)),(13,vp (pa o)),(40,vs (some j) d m),(41,vi d),(42,vi s42)] sk ?_
   refine yz<| aE<| T_sz<| ar 13 ?_
   obtain⟨d2,q164,h⟩:=h
   refine T_l (some 55) 28 q164 [(2,vp (pa b)),(6,vp (pa l)),(10,vs f outN outC),(12,vp (pa e)),(13,vp (pa o)),(40,vs (some j) d m),(41,vi d),(42,vi s42),(55,vp d2)] ?_
   obtain⟨eo,q165,h⟩:=h
   refine T_l1 56 40 q165 []<| T_c (some 57) h ?_;clear h
   rintro dt f1 ⟨-,h⟩
   refine T_pd [55,56] [(57,dt)]<| T_e<| T_bz 4<| iO (g:=.tmp 57) (ps:= #[58,59]) (assign:=K50) (body:=K51) (dt) (by kernel_rfl) (by kernel_rfl) (by kernel_rfl) ?_
   intro a3 lp_3 H65 r166 e167 e168 y169
   refine FE.mono (h a3 lp_3 H65 e167 e168 (.func (.yield lp_3) #[] #[]) ?_) ?_
   ·clear h
    intro am x_59 H66 vRy_3 q170 h
    refine y169 #[vi am,vu x_59] H66 vRy_3 (by kernel_rfl) q170 (λw1x_3=>?_)
    refine T_sd [] [(58,vi am),(59,vu x_59)]<| ar 14<| T_ed 1 [10,40,41,42,57,58] [(14,vi am)]<| T_rz 15<| T_nd 1 [59] [(15,vu x_59)]<| zq ?_
    obtain⟨q172,h⟩:=h
    refine aE<| iN r166 q172 ?_
    intro ft e171
    replace h:=h ft e171
    refine T_bz 5<| ar 16 ?_
    obtain⟨eu,q173,h⟩:=h
    refine T_l1 60 100 q173 [6]<| T_nd 1 [] [(61,vu x_59)] ?_
    obtain⟨gh,rfl,gn,cl_4,ks_4,q174,q175,y,e193,h⟩:=h
    refine T_v1 62 (gV 100 (.map (some gh)) (vu x_59) false) (vi y) (λw hw=>(fT (kk:=(bT .u64)) (z:=vi 0) Tryz.underlying100 Tryz.underlying40 (λ_=>by kernel_rfl) (by rw[hw];exact q174) q175 false).trans (by simp only[if_true,Bool.false_eq_true,if_false,e193])) [60,61]<| T_ed 1 [62] [(16,vi y)]<| T_sz<| ar 17<| T_nd 3 [] [(65,.bool (y==0))] ?_
    by_cases c177:y=0
    ·rw[if_pos c177]at h
     refine N_bd 65 (zK c177) ?_
     obtain⟨fc,q179,h⟩:=h
     refine T_l1 66 40 q179 []<| T_c (some 67) h ?_;clear h
     rintro hh gz ⟨c7,rfl,h⟩
     refine T_pd [66] [(67,vi c7)]<| T_nd 3 [65,67] [(70,.bool (c7==2))] ?_
     by_cases c180:c7=2
     ·rw[if_pos c180]at h
      refine N_bd 70 (zK c180)<| T_nd 1 [14] [(71,vi am)] ?_
      obtain⟨fg,q182,h⟩:=h
      refine T_l1 72 40 q182 [12]<| T_c (some 73) h ?_;clear h
      rintro hf g0 ⟨dk,rfl,h⟩
      refine T_pd [72] [(73,vi dk)]<| T_nd 3 [70,71,73] [(76,.bool (am==dk))] ?_
      by_cases c183:am=dk
      ·rw[if_pos c183]at h
       refine N_bd 76 (zK c183) ?_
       obtain⟨ee,q185,h⟩:=h
       refine T_l1 77 28 q185 [2]<| T_nd 1 [] [(78,vu x_59)]<| T_c (some 79) h ?_;clear h
       rintro ip h7 ⟨db,rfl,h⟩
       refine T_pd [77,78] [(79,vi db)]<| T_ed 2 [76,79] [(81,.bool (decide (db>0)))] ?_
       by_cases c186:db>0
       ·rw[if_pos c186]at h
        refine aL 81 (zX c186)<| T_rz 18<| T_ed 1 [16,81] [(16,vi (-1))]<| T_rz 19<| T_nd 2 [15,16] [(82,vu x_59),(83,vi (-1))]<| T_c (some 84) h ?_;clear h
        intro v_37 hp h
        refine⟨[],pk,?_⟩
        refine zq<| aA ?_
        obtain⟨q188,h⟩:=h
        exact bG r166 q188 h
       rw[if_neg c186]at h
       refine aM 81 (zQ c186)<| T_kt<| T_rz 19<| T_nd 2 [15,16,81] [(82,vu x_59),(83,vi y)]<| T_c (some 84) h ?_;clear h
       intro v_38 i4 h
       refine⟨[],pk,?_⟩
       refine zq<| aA ?_
       obtain⟨q189,h⟩:=h
       exact bG r166 q189 h
      rw[if_neg c183]at h
      refine N_bd 76 (zJ c183)<| T_ed 5 [2,76] [(81,.bool false)]<| T_fz 81<| T_kt<| T_rz 19<| T_nd 2 [15,16,81] [(82,vu x_59),(83,vi y)] ?_
      refine T_c (some 84) h ?_;clear h
      intro v_39 hu h
      refine⟨[],pk,?_⟩
      refine zq<| aA ?_
      obtain⟨q190,h⟩:=h
      exact bG r166 q190 h
     rw[if_neg c180]at h
     refine N_bd 70 (zJ c180)<| T_ed 11 [2,12,14,70] [(81,.bool false)]<| T_fz 81<| T_kt<| T_rz 19<| T_nd 2 [15,16,81] [(82,vu x_59),(83,vi y)] ?_
     refine T_c (some 84) h ?_;clear h
     intro v_40 i1 h
     refine⟨[],pk,?_⟩
     refine zq<| aA ?_
     obtain⟨q191,h⟩:=h
     exact bG r166 q191 h
    rw[if_neg c177]at h
    refine N_bd 65 (zJ c177)<| T_ed 16 [2,12,14,65] [(81,.bool false)]<| T_fz 81<| T_kt<| T_rz 19<| T_nd 2 [15,16,81] [(82,vu x_59),(83,vi y)] ?_
    refine T_c (some 84) h ?_;clear h
    intro v_41 ie h
    refine⟨[],pk,?_⟩
    refine zq<| aA ?_
    obtain⟨q192,h⟩:=h
    exact bG r166 q192 h
   clear h y169
   rintro _ i9 (⟨q195,h⟩)
   refine .inl ⟨q195,λhc e211=>?_⟩
   replace h:=h hc e211
   refine gR (f1.size::ms) rfl ?_
   refine T_sd [57] []<| aA<| aE<| T_sz<| ar 20<| T_ed 1 [] [(17,vi 0)]<| T_bz 6 ?_
   obtain⟨bi,m80,i196,i197⟩:=h
   refine dE (x:=K68) (σ:=Int) (λs_=> [(2,vp (pa b)),(6,vp (pa l)),(10,vs f outN outC),(12,vp (pa e)),(13,vp (pa o)),(17,vi s_),(40,vs (some j) d m),(41,vi d),(42,vi s42)]) (λs_ H=>bi s_ H) (λs_ H=>m80 s_ H) (0:Int) (by kernel_rfl) i196 sk ?_
   rintro aq H78 i198
   have h:=i197 aq H78 i198
   refine T_su [(2,vp (pa b)),(6,vp (pa l)),(10,vs f outN outC),(12,vp (pa e)),(13,vp (pa o)),(17,vi aq),(40,vs (some j) d m),(41,vi d),(42,vi s42)]<| T_sz<| T_sz ?_
   obtain⟨fe,ax,er,q199,c9,q200,dw,q201,h⟩:=h
   refine yq 21 (Code.ops K71) [(7,((ad o).add 3),[vs fe ax er]),(5,(ad b),[vp c9]),(5,(ad e),[vu dw])] 7 (bv 7 0) (show aJ _ _ _ from⟨⟨q199,trivial⟩,⟨q200,trivial⟩,⟨q201,trivial⟩,trivial⟩)<| T_gp 0 (some 85) (vp (some ((ad o).add 3))) (bv 7 1) [(2,vp (pa b)),(6,vp (pa l)),(10,vs f outN outC),(12,vp (pa e)),(13,vp (pa o)),(17,vi aq),(40,vs (some j) d m),(41,vi d),(42,vi s42),(85,vp (some ((ad o).add 3)))]<| T_g1 1 86 (vs fe ax er) (bv 7 3) [85] (bH 29 (vp (some ((ad o).add 3)))) (jT 7 (λ_=>by kernel_rfl) yX (.inr (by kernel_rfl)))<| bM 2 87 (vi ax) (bv 7 7) [86]<| T_g1 3 88 (vp c9) (bv 7 15) [] (bH 28 (vp (pa b))) (yY 5 yQ)<| T_g1 4 89 (vu dw) (bv 7 31) [] (bH 40 (vp (pa e))) (yY 5 yJ)<| yx 5 (some 90) (bv 7 63) 51 #[vp c9,vu dw] h ?_;clear h
   rintro ih ek ⟨b0,rfl,f202,h⟩
   refine⟨[(2,vp (pa b)),(6,vp (pa l)),(10,vs f outN outC),(12,vp (pa e)),(13,vp (pa o)),(17,vi aq),(40,vs (some j) d m),(41,vi d),(42,vi s42),(87,vi ax),(90,vi b0)],pk,(show aJ _ _ _ from⟨f202,trivial,trivial,trivial⟩),?_⟩
   refine T_g 6 (some 91) (.bool (decide ((ax:Int)<b0))) (bv 7 127) [(2,vp (pa b)),(6,vp (pa l)),(10,vs f outN outC),(12,vp (pa e)),(13,vp (pa o)),(17,vi aq),(40,vs (some j) d m),(41,vi d),(42,vi s42),(91,.bool (decide ((ax:Int)<b0)))] (pure (.value (.bool (decide ((ax:Int)<b0)))):Sem Next) (λ_ _ _ _ _=>rfl)<| gT [(2,vp (pa b)),(6,vp (pa l)),(10,vs f outN outC),(12,vp (pa e)),(13,vp (pa o)),(17,vi aq),(40,vs (some j) d m),(41,vi d),(42,vi s42),(91,.bool (decide ((ax:Int)<b0)))] sk<| yz<| aE ?_
   by_cases c203:(ax:Int)<b0
   ·rw[if_pos c203]at h
    refine aL 91 (zX c203)<| T_kt<| T_sz<| T_bz 7<| ar 23<| T_nu [(2,vp (pa b)),(6,vp (pa l)),(10,vs f outN outC),(12,vp (pa e)),(13,vp (pa o)),(17,vi aq),(40,vs (some j) d m),(41,vi d),(42,vi s42)] ?_
    obtain⟨b9,q205,h⟩:=h
    refine T_l1 95 28 q205 [] ?_
    obtain⟨c4,q206,h⟩:=h
    refine T_l1 96 40 q206 []<| T_nd 1 [] [(97,vp (some ((ad o).add 1)))] ?_
    obtain⟨d9,q207,h⟩:=h
    refine T_l1 98 3 q207 [97]<| T_nd 1 [] [(99,vi aq)]<| T_c (some 100) h ?_;clear h
    rintro i3 je ⟨d8,gp,rfl,h⟩
    refine T_pd [95,96,98,99] [(100,.tuple #[vu d8,vi gp])]<| T_ed 5 [100] [(18,vu d8)]<| T_rz 24<| T_nd 1 [18] [(103,vu d8)]<| T_c (some 104) h ?_;clear h
    intro v_44 iw h
    exact T_pd [103] []<| zq<| aA<| aE<| T_rz 22<| T_ed 3 [17] [(17,vi (zY (aq+1)))]<| bK ((zY (aq+1)):Int) sk h
   rw[if_neg c203]at h
   refine aM 91 (zQ c203)<| zk 6<| aD<| aD<| aQ<| aE<| T_rz 25<| T_n 1 [(2,vp (pa b)),(6,vp (pa l)),(13,vp (pa o)),(40,vs (some j) d m),(41,vi d),(42,vi s42),(105,vs f outN outC)] ?_
   obtain⟨cj,bs,bq,ba,a9,be,ci,cq,ck,q208,h⟩:=h
   refine T_lr 106 61 q208 [13]<| T_nw (some 107) (λb=>vs (pa b) 1 1) (.cells #[vi cj,vi bs,vu bq,vs ba a9 be,vs ci cq ck] 61) ?_
   intro ff H82 e209 e210
   replace h:=h ff H82 e209 e210
   refine T_pd [106] [(107,vs (pa ff) 1 1)]<| N_op (some 108) (eJ #[22,22] 22 #[vs f outN outC,vs (pa ff) 1 1]) _ (λ_=>by kernel_rfl) (dM (T:=61) (sz:=5) (bytes:=72) (zero:=(.agg #[vi 0,vi 0,vu 0,vs none 0 0,vs none 0 0]:Value)) Tryz.underlying22 Tryz.underlying22 rfl (show Tryz.prog.info? 61=some Tryz.t61 from by kernel_rfl) (by kernel_rfl) (by kernel_rfl) (by decide) (by kernel_rfl) (by first | exact h | (simpa only[Value.cells,List.toList_toArray]using h))) ?_;clear h
   rintro _ h8 ⟨dv,c1,rfl,h⟩
   exact T_pd [105,107] [(108,vs dv (outN+1) c1)]<| T_nd 1 [108] [(10,vs dv (outN+1) c1)]<| zq<| aA<| aE<| T_rz 26<| T_ed 2 [42] [(42,vi (zY (s42+1)))]<| js (mk:=(λs_=>s_.2.2.2.2)) (I:=(λs_ H=>c5 s_.1 s_.2.1 s_.2.2.1 s_.2.2.2.1 s_.2.2.2.2 H)) (μ:=(λs_ H=>m32 s_.1 s_.2.1 s_.2.2.1 s_.2.2.2.1 s_.2.2.2.2 H)) (s:=(_,_,_,_,_)) ((dv,(outN+1),c1,(zY (s42+1)),(f1.size::ms)):zW×Nat×Nat×Int×(List Nat)) sk h
  replace h:=h.2
  refine mQ 9 (some 13) (bv 11 621) (λb=>vp (pa b)) (.cells #[vi 0,vi 0,vu 0,vs none 0 0,vs none 0 0] 61) (by kernel_rfl) (λ_=>by kernel_rfl) (by kernel_rfl) ?_
  intro n H84 e217 e218
  replace h:=h n H84 e217 e218
  obtain⟨f212,f213,f214,f215,f216,h⟩:=h
  refine⟨[(2,vp (pa b)),(6,vp (pa l)),(10,vs f outN outC),(12,vp (pa e)),(13,vp (pa n)),(40,vs (some j) d m),(41,vi d),(42,vi s42),(46,vu bz),(48,vp a4),(49,vu a5),(51,vp av),(52,vu ah)],pk,(show aJ _ _ _ from⟨f212,f213,f214,f215,f216,trivial⟩),?_⟩
  refine yx 1 (some 47) (bv 11 623) 46 #[vu bz] h ?_;clear h
  rintro hi f9 ⟨bj,rfl,f219,f220,f221,f222,h⟩
  refine⟨[(2,vp (pa b)),(6,vp (pa l)),(10,vs f outN outC),(12,vp (pa e)),(13,vp (pa n)),(40,vs (some j) d m),(41,vi d),(42,vi s42),(47,vi bj),(48,vp a4),(49,vu a5),(51,vp av),(52,vu ah)],pk,(show aJ _ _ _ from⟨trivial,f219,f220,f221,f222,trivial⟩),?_⟩
  refine yx 4 (some 50) (bv 11 639) 47 #[vp a4,vu a5] h ?_;clear h
  rintro ix g8 ⟨b3,rfl,f223,f224,h⟩
  refine⟨[(2,vp (pa b)),(6,vp (pa l)),(10,vs f outN outC),(12,vp (pa e)),(13,vp (pa n)),(40,vs (some j) d m),(41,vi d),(42,vi s42),(47,vi bj),(50,vi b3),(51,vp av),(52,vu ah)],pk,(show aJ _ _ _ from⟨trivial,trivial,trivial,f223,f224,trivial⟩),?_⟩
  refine yx 7 (some 53) (bv 11 767) 48 #[vp av,vu ah] h ?_;clear h
  rintro ia g4 ⟨cd,rfl,h⟩
  refine⟨[(2,vp (pa b)),(6,vp (pa l)),(10,vs f outN outC),(12,vp (pa e)),(13,vp (pa n)),(40,vs (some j) d m),(41,vi d),(42,vi s42),(47,vi bj),(50,vi b3),(53,vu cd)],pk,(show aJ _ _ _ from⟨trivial,trivial,trivial,trivial,trivial,trivial⟩),?_⟩
  refine T_g 8 (some 54) (.agg #[vi bj,vi b3,vu cd,vs none 0 0,vs none 0 0]) (bv 11 1023) [(2,vp (pa b)),(6,vp (pa l)),(10,vs f outN outC),(12,vp (pa e)),(13,vp (pa n)),(40,vs (some j) d m),(41,vi d),(42,vi s42),(54,.agg #[vi bj,vi b3,vu cd,vs none 0 0,vs none 0 0])] (pure (.value (.agg #[vi bj,vi b3,vu cd,vs none 0 0,vs none 0 0])):Sem Next) (λ_ _ _ _ _=>rfl) ?_
  obtain⟨q226,h⟩:=h
  refine fR 10 none (bv 11 2047) (gL 61 (vp (pa n)) (.agg #[vi bj,vi b3,vu cd,vs none 0 0,vs none 0 0])) (λHz=>Hz=aU g4 (ad n) [vi bj,vi b3,vu cd,vs none 0 0,vs none 0 0] 0) (by kernel_rfl) (λ_=>by kernel_rfl) (go [vi bj,vi b3,vu cd,vs none 0 0,vs none 0 0] 5 (by kernel_rfl) (by kernel_rfl) (λ_=>by kernel_rfl) (by kernel_rfl) q226) (by kernel_rfl) ?_
  intro ga e225
  replace h:=h ga e225
  refine⟨[(2,vp (pa b)),(6,vp (pa l)),(10,vs f outN outC),(12,vp (pa e)),(13,vp (pa n)),(40,vs (some j) d m),(41,vi d),(42,vi s42)],pk,(show aJ _ _ _ from⟨trivial,trivial,trivial,trivial,trivial,trivial⟩),?_⟩
  refine gT [(2,vp (pa b)),(6,vp (pa l)),(10,vs f outN outC),(12,vp (pa e)),(13,vp (pa n)),(40,vs (some j) d m),(41,vi d),(42,vi s42)] sk ?_
  refine yz<| aE<| T_sz<| ar 13 ?_
  obtain⟨ea,q227,h⟩:=h
  refine T_l (some 55) 28 q227 [(2,vp (pa b)),(6,vp (pa l)),(10,vs f outN outC),(12,vp (pa e)),(13,vp (pa n)),(40,vs (some j) d m),(41,vi d),(42,vi s42),(55,vp ea)] ?_
  obtain⟨ex,q228,h⟩:=h
  refine T_l1 56 40 q228 []<| T_c (some 57) h ?_;clear h
  rintro eg fz ⟨-,h⟩
  refine T_pd [55,56] [(57,eg)]<| T_e<| T_bz 4<| iO (g:=.tmp 57) (ps:= #[58,59]) (assign:=K50) (body:=K51) (eg) (by kernel_rfl) (by kernel_rfl) (by kernel_rfl) ?_
  intro a1 lp_4 H90 r229 e230 e231 y232
  refine FE.mono (h a1 lp_4 H90 e230 e231 (.func (.yield lp_4) #[] #[]) ?_) ?_
  ·clear h
   intro al x_81 H91 vRy_4 q233 h
   refine y232 #[vi al,vu x_81] H91 vRy_4 (by kernel_rfl) q233 (λw1x_4=>?_)
   refine T_sd [] [(58,vi al),(59,vu x_81)]<| ar 14<| T_ed 1 [10,40,41,42,57,58] [(14,vi al)]<| T_rz 15<| T_nd 1 [59] [(15,vu x_81)]<| zq ?_
   obtain⟨q235,h⟩:=h
   refine aE<| iN r229 q235 ?_
   intro fu e234
   replace h:=h fu e234
   refine T_bz 5<| ar 16 ?_
   obtain⟨fh,q236,h⟩:=h
   refine T_l1 60 100 q236 [6]<| T_nd 1 [] [(61,vu x_81)] ?_
   obtain⟨gf,rfl,gr,cl_5,ks_5,q237,q238,aa,e256,h⟩:=h
   refine T_v1 62 (gV 100 (.map (some gf)) (vu x_81) false) (vi aa) (λw hw=>(fT (kk:=(bT .u64)) (z:=vi 0) Tryz.underlying100 Tryz.underlying40 (λ_=>by kernel_rfl) (by rw[hw];exact q237) q238 false).trans (by simp only[if_true,Bool.false_eq_true,if_false,e256])) [60,61]<| T_ed 1 [62] [(16,vi aa)]<| T_sz<| ar 17<| T_nd 3 [] [(65,.bool (aa==0))] ?_
   by_cases c240:aa=0
   ·rw[if_pos c240]at h
    refine N_bd 65 (zK c240) ?_
    obtain⟨fi,q242,h⟩:=h
    refine T_l1 66 40 q242 []<| T_c (some 67) h ?_;clear h
    rintro ic gy ⟨dg,rfl,h⟩
    refine T_pd [66] [(67,vi dg)]<| T_nd 3 [65,67] [(70,.bool (dg==2))] ?_
    by_cases c243:dg=2
    ·rw[if_pos c243]at h
     refine N_bd 70 (zK c243)<| T_nd 1 [14] [(71,vi al)] ?_
     obtain⟨fd,q245,h⟩:=h
     refine T_l1 72 40 q245 [12]<| T_c (some 73) h ?_;clear h
     rintro ij g6 ⟨dj,rfl,h⟩
     refine T_pd [72] [(73,vi dj)]<| T_nd 3 [70,71,73] [(76,.bool (al==dj))] ?_
     by_cases c246:al=dj
     ·rw[if_pos c246]at h
      refine N_bd 76 (zK c246) ?_
      obtain⟨d7,q248,h⟩:=h
      refine T_l1 77 28 q248 [2]<| T_nd 1 [] [(78,vu x_81)]<| T_c (some 79) h ?_;clear h
      rintro hs il ⟨dh,rfl,h⟩
      refine T_pd [77,78] [(79,vi dh)]<| T_ed 2 [76,79] [(81,.bool (decide (dh>0)))] ?_
      by_cases c249:dh>0
      ·rw[if_pos c249]at h
       refine aL 81 (zX c249)<| T_rz 18<| T_ed 1 [16,81] [(16,vi (-1))]<| T_rz 19<| T_nd 2 [15,16] [(82,vu x_81),(83,vi (-1))]<| T_c (some 84) h ?_;clear h
       intro v_52 h4 h
       refine⟨[],pk,?_⟩
       refine zq<| aA ?_
       obtain⟨q251,h⟩:=h
       exact bG r229 q251 h
      rw[if_neg c249]at h
      refine aM 81 (zQ c249)<| T_kt<| T_rz 19<| T_nd 2 [15,16,81] [(82,vu x_81),(83,vi aa)]<| T_c (some 84) h ?_;clear h
      intro v_53 h1 h
      refine⟨[],pk,?_⟩
      refine zq<| aA ?_
      obtain⟨q252,h⟩:=h
      exact bG r229 q252 h
     rw[if_neg c246]at h
     refine N_bd 76 (zJ c246)<| T_ed 5 [2,76] [(81,.bool false)]<| T_fz 81<| T_kt<| T_rz 19<| T_nd 2 [15,16,81] [(82,vu x_81),(83,vi aa)] ?_
     refine T_c (some 84) h ?_;clear h
     intro v_54 hx h
     refine⟨[],pk,?_⟩
     refine zq<| aA ?_
     obtain⟨q253,h⟩:=h
     exact bG r229 q253 h
    rw[if_neg c243]at h
    refine N_bd 70 (zJ c243)<| T_ed 11 [2,12,14,70] [(81,.bool false)]<| T_fz 81<| T_kt<| T_rz 19<| T_nd 2 [15,16,81] [(82,vu x_81),(83,vi aa)] ?_
    refine T_c (some 84) h ?_;clear h
    intro v_55 hj h
    refine⟨[],pk,?_⟩
    refine zq<| aA ?_
    obtain⟨q254,h⟩:=h
    exact bG r229 q254 h
   rw[if_neg c240]at h
   refine N_bd 65 (zJ c240)<| T_ed 16 [2,12,14,65] [(81,.bool false)]<| T_fz 81<| T_kt<| T_rz 19<| T_nd 2 [15,16,81] [(82,vu x_81),(83,vi aa)] ?_
   refine T_c (some 84) h ?_;clear h
   intro v_56 gq h
   refine⟨[],pk,?_⟩
   refine zq<| aA ?_
   obtain⟨q255,h⟩:=h
   exact bG r229 q255 h
  clear h y232
  rintro _ gw (⟨q258,h⟩)
  refine .inl ⟨q258,λgc e274=>?_⟩
  replace h:=h gc e274
  refine gR (fz.size::ms) rfl ?_
  refine T_sd [57] []<| aA<| aE<| T_sz<| ar 20<| T_ed 1 [] [(17,vi 0)]<| T_bz 6 ?_
  obtain⟨bi,m80,i259,i260⟩:=h
  refine dE (x:=K68) (σ:=Int) (λs_=> [(2,vp (pa b)),(6,vp (pa l)),(10,vs f outN outC),(12,vp (pa e)),(13,vp (pa n)),(17,vi s_),(40,vs (some j) d m),(41,vi d),(42,vi s42)]) (λs_ H=>bi s_ H) (λs_ H=>m80 s_ H) (0:Int) (by kernel_rfl) i259 sk ?_
  rintro ao H103 i261
  have h:=i260 ao H103 i261
  refine T_su [(2,vp (pa b)),(6,vp (pa l)),(10,vs f outN outC),(12,vp (pa e)),(13,vp (pa n)),(17,vi ao),(40,vs (some j) d m),(41,vi d),(42,vi s42)]<| T_sz<| T_sz ?_
  obtain⟨fj,ay,fk,q262,c6,q263,dq,q264,h⟩:=h
  refine yq 21 (Code.ops K71) [(7,((ad n).add 3),[vs fj ay fk]),(5,(ad b),[vp c6]),(5,(ad e),[vu dq])] 7 (bv 7 0) (show aJ _ _ _ from⟨⟨q262,trivial⟩,⟨q263,trivial⟩,⟨q264,trivial⟩,trivial⟩)<| T_gp 0 (some 85) (vp (some ((ad n).add 3))) (bv 7 1) [(2,vp (pa b)),(6,vp (pa l)),(10,vs f outN outC),(12,vp (pa e)),(13,vp (pa n)),(17,vi ao),(40,vs (some j) d m),(41,vi d),(42,vi s42),(85,vp (some ((ad n).add 3)))]<| T_g1 1 86 (vs fj ay fk) (bv 7 3) [85] (bH 29 (vp (some ((ad n).add 3)))) (jT 7 (λ_=>by kernel_rfl) yX (.inr (by kernel_rfl)))<| bM 2 87 (vi ay) (bv 7 7) [86]<| T_g1 3 88 (vp c6) (bv 7 15) [] (bH 28 (vp (pa b))) (yY 5 yQ)<| T_g1 4 89 (vu dq) (bv 7 31) [] (bH 40 (vp (pa e))) (yY 5 yJ)<| yx 5 (some 90) (bv 7 63) 51 #[vp c6,vu dq] h ?_;clear h
  rintro i0 c3 ⟨b5,rfl,f265,h⟩
  refine⟨[(2,vp (pa b)),(6,vp (pa l)),(10,vs f outN outC),(12,vp (pa e)),(13,vp (pa n)),(17,vi ao),(40,vs (some j) d m),(41,vi d),(42,vi s42),(87,vi ay),(90,vi b5)],pk,(show aJ _ _ _ from⟨f265,trivial,trivial,trivial⟩),?_⟩
  refine T_g 6 (some 91) (.bool (decide ((ay:Int)<b5))) (bv 7 127) [(2,vp (pa b)),(6,vp (pa l)),(10,vs f outN outC),(12,vp (pa e)),(13,vp (pa n)),(17,vi ao),(40,vs (some j) d m),(41,vi d),(42,vi s42),(91,.bool (decide ((ay:Int)<b5)))] (pure (.value (.bool (decide ((ay:Int)<b5)))):Sem Next) (λ_ _ _ _ _=>rfl)<| gT [(2,vp (pa b)),(6,vp (pa l)),(10,vs f outN outC),(12,vp (pa e)),(13,vp (pa n)),(17,vi ao),(40,vs (some j) d m),(41,vi d),(42,vi s42),(91,.bool (decide ((ay:Int)<b5)))] sk<| yz<| aE ?_
  by_cases c266:(ay:Int)<b5
  ·rw[if_pos c266]at h
   refine aL 91 (zX c266)<| T_kt<| T_sz<| T_bz 7<| ar 23<| T_nu [(2,vp (pa b)),(6,vp (pa l)),(10,vs f outN outC),(12,vp (pa e)),(13,vp (pa n)),(17,vi ao),(40,vs (some j) d m),(41,vi d),(42,vi s42)] ?_
   obtain⟨b8,q268,h⟩:=h
   refine T_l1 95 28 q268 [] ?_
   obtain⟨c0,q269,h⟩:=h
   refine T_l1 96 40 q269 []<| T_nd 1 [] [(97,vp (some ((ad n).add 1)))] ?_
   obtain⟨d1,q270,h⟩:=h
   refine T_l1 98 3 q270 [97]<| T_nd 1 [] [(99,vi ao)]<| T_c (some 100) h ?_;clear h
   rintro jc hl ⟨d6,gm,rfl,h⟩
   refine T_pd [95,96,98,99] [(100,.tuple #[vu d6,vi gm])]<| T_ed 5 [100] [(18,vu d6)]<| T_rz 24<| T_nd 1 [18] [(103,vu d6)]<| T_c (some 104) h ?_;clear h
   intro v_59 gu h
   exact T_pd [103] []<| zq<| aA<| aE<| T_rz 22<| T_ed 3 [17] [(17,vi (zY (ao+1)))]<| bK ((zY (ao+1)):Int) sk h
  rw[if_neg c266]at h
  refine aM 91 (zQ c266)<| zk 6<| aD<| aD<| aQ<| aE<| T_rz 25<| T_n 1 [(2,vp (pa b)),(6,vp (pa l)),(13,vp (pa n)),(40,vs (some j) d m),(41,vi d),(42,vi s42),(105,vs f outN outC)] ?_
  obtain⟨ch,bn,bo,bf,bg,bb,cu,ct,cr,q271,h⟩:=h
  refine T_lr 106 61 q271 [13]<| T_nw (some 107) (λb=>vs (pa b) 1 1) (.cells #[vi ch,vi bn,vu bo,vs bf bg bb,vs cu ct cr] 61) ?_
  intro en H107 e272 e273
  replace h:=h en H107 e272 e273
  refine T_pd [106] [(107,vs (pa en) 1 1)]<| N_op (some 108) (eJ #[22,22] 22 #[vs f outN outC,vs (pa en) 1 1]) _ (λ_=>by kernel_rfl) (dM (T:=61) (sz:=5) (bytes:=72) (zero:=(.agg #[vi 0,vi 0,vu 0,vs none 0 0,vs none 0 0]:Value)) Tryz.underlying22 Tryz.underlying22 rfl (show Tryz.prog.info? 61=some Tryz.t61 from by kernel_rfl) (by kernel_rfl) (by kernel_rfl) (by decide) (by kernel_rfl) (by first | exact h | (simpa only[Value.cells,List.toList_toArray]using h))) ?_;clear h
  rintro _ gs ⟨dy,cx,rfl,h⟩
  exact T_pd [105,107] [(108,vs dy (outN+1) cx)]<| T_nd 1 [108] [(10,vs dy (outN+1) cx)]<| zq<| aA<| aE<| T_rz 26<| T_ed 2 [42] [(42,vi (zY (s42+1)))]<| js (mk:=(λs_=>s_.2.2.2.2)) (I:=(λs_ H=>c5 s_.1 s_.2.1 s_.2.2.1 s_.2.2.2.1 s_.2.2.2.2 H)) (μ:=(λs_ H=>m32 s_.1 s_.2.1 s_.2.2.1 s_.2.2.2.1 s_.2.2.2.2 H)) (s:=(_,_,_,_,_)) ((dy,(outN+1),cx,(zY (s42+1)),(fz.size::ms)):zW×Nat×Nat×Int×(List Nat)) sk h
 rw[if_neg c29]at h
 refine aM 43 (zQ c29)<| zk 2<| aD<| aD<| aQ<| aE<| ar 27<| T_ne 2 [(4,vs f outN outC)]<| zx ?_
 show At _ _ _ _ _ (Q .ret)
 refine iI (fn:=Tryz.f16) (ms) hQ (Shut.mono (λhy h=>?_) h)
 exact⟨[vs f outN outC],(show dF _ _ _ [.tmp 4] _ from .tmp (by kernel_rfl) (.nil)),h⟩
end dT

