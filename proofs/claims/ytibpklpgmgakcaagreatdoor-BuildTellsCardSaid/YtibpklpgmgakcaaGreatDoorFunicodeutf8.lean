/- Printed: what each function asks, and that it is sound. -/
import Derived.Test.YtibpklpgmgakcaaGreatDoorFnsC
set_option linter.unusedSimpArgs false
set_option linter.unusedVariables false
set_option maxRecDepth 100000
set_option maxHeartbeats 1000000
noncomputable section
namespace Go.Proofs.YtibpklpgmgakcaaGreatDoor
open Go
/-! unicode/utf8.ValidString -/
namespace unicode_utf8_ValidString
def K0:=Func.code Tryz.f58
def K2:=cb K0
def K3:=ca K2
def K5:=ca K3
def K6:=ca K5
def K8:=cb K6
def K13:=ca K8
def K15:=cb K13
def K16:=ca K15
def K19:=cb K16
def K20:=ca K19
def K23:=cb K20
def K24:=ca K23
def K27:=cb K24
def K28:=ca K27
def K31:=cb K28
def K32:=ca K31
def K33:=cb K31
def K34:=ca K33
def K37:=cb K34
def K38:=ca K37
def K39:=ca K38
def K40:=ca K39
def K42:=ca K40
end unicode_utf8_ValidString
def unicode_utf8_ValidString.pt(s:ByteArray)(H:Array Obj)(R:Value->Array Obj->Prop):Prop:=
 ∃(I7:ByteArray->Array Obj->Prop) (m7:ByteArray->Array Obj->Nat),I7 s H/\ ∀(d:ByteArray) (H1:Array Obj),I7 d H1->
 if(d.size:Int)>0 then(
 ∃c:UInt8,((0:Int)<=0/\d[Int.toNat 0]?=some c)/\
 if((c.toNat:Nat):Int)<128 then(
 ∃(lo hi:Nat),1=(lo:Int)/\hi=d.size/\lo<=hi/\hi<=d.size/\
 ∃J:Bool->Array Obj->Prop,(
 if((d.extract lo hi).size:Int)>8 then(
 unicode_utf8_word_string.C (d.extract lo hi) H1 (λbq bn=> ∃bi:Int,bq=.int .u64 bi/\
 J ((iand .u64 bi 9259542123273814144)==0) bn))
 else
 J false H1)/\ ∀(bf:Bool) (H2:Array Obj),J bf H2->
 ∃bg:ByteArray->Array Obj->Prop,(
 if bf=true then(
 ∃(g f:Nat),8=(g:Int)/\f=(d.extract lo hi).size/\g<=f/\f<=(d.extract lo hi).size/\
 ∃bj:Bool->Array Obj->Prop,(
 if(((d.extract lo hi).extract g f).size:Int)>16 then(
 ∃(bb a5:Nat),8=(bb:Int)/\a5=((d.extract lo hi).extract g f).size/\bb<=a5/\a5<=((d.extract lo hi).extract g f).size/\
 unicode_utf8_word_string.C ((d.extract lo hi).extract g f) H2 (λbr bp=> ∃al:Int,br=.int .u64 al/\
 unicode_utf8_word_string.C (((d.extract lo hi).extract g f).extract bb a5) bp (λbl bo=> ∃am:Int,bl=.int .u64 am/\
 bj ((iand .u64 (ior .u64 al am) 9259542123273814144)==0) bo)))
 else
 bj false H2)/\ ∀(be:Bool) (H4:Array Obj),bj be H4->
 if be=true then(
 ∃(ba a4:Nat),16=(ba:Int)/\a4=((d.extract lo hi).extract g f).size/\ba<=a4/\a4<=((d.extract lo hi).extract g f).size/\
 ∃(bk:ByteArray->Array Obj->Prop) (m40:ByteArray->Array Obj->Nat),bk (((d.extract lo hi).extract g f).extract ba a4) H4/\ ∀(e:ByteArray) (H5:Array Obj),bk e H5->
 if(e.size:Int)>32 then(
 ∃(an ab:Nat),8=(an:Int)/\ab=e.size/\an<=ab/\ab<=e.size/\
 ∃(aq ai:Nat),16=(aq:Int)/\ai=e.size/\aq<=ai/\ai<=e.size/\
 ∃(aw ao:Nat),24=(aw:Int)/\ao=e.size/\aw<=ao/\ao<=e.size/\
 unicode_utf8_word_string.C e H5 (λv H6=> ∃x:Int,v=.int .u64 x/\
 unicode_utf8_word_string.C (e.extract an ab) H6 (λbm H7=> ∃o:Int,bm=.int .u64 o/\
 unicode_utf8_word_string.C (e.extract aq ai) H7 (λbs H8=> ∃p:Int,bs=.int .u64 p/\
 unicode_utf8_word_string.C (e.extract aw ao) H8 (λbt H9=> ∃q:Int,bt=.int .u64 q/\
 if(iand .u64 (ior .u64 (ior .u64 x o) (ior .u64 p q)) 9259542123273814144)=0 then(
 ∃(a7 a0:Nat),32=(a7:Int)/\a0=e.size/\a7<=a0/\a0<=e.size/\
 (bk (e.extract a7 a0) H9/\m40 (e.extract a7 a0) H9<m40 e H5))
 else
 bg e H9)))))
 else
 bg e H5)
 else
 bg ((d.extract lo hi).extract g f) H4)
 else
 bg (d.extract lo hi) H2)/\ ∀(bh:ByteArray) (H3:Array Obj),bg bh H3->
 (I7 bh H3/\m7 bh H3<m7 d H1))
 else
 ((0:Int)<=((c.toNat:Nat):Int)/\((c.toNat:Nat):Int)< (256:Int))/\
 ∃j:Int,hat H1 ((ad 0).add (Int.toNat ((c.toNat:Nat):Int)*1))=some (.int .u8 j)/\
 ((0:Int)<=(ishr .u8 j 4)/\(ishr .u8 j 4)< (16:Int))/\
 ∃bc bd:Int,RowAt H1 ((ad 1).add (Int.toNat (ishr .u8 j 4)*2)) 0 [.int .u8 bc,.int .u8 bd]/\
 ∀(b:Nat) (H13:Array Obj),b=H1.size->H13=H1.push (.cells #[.int .u8 0,.int .u8 0] 157)->
 (CanPuts H13 (ad b) 0 2)/\ ∀m,m=hputs H13 (ad b) [.int .u8 bc,.int .u8 bd] 0->
 if(IntKind.wrap .i64 (iand .u8 j 7))=2 then(
 if(d.size:Int)<2 then(
 R (.bool false) m)
 else
 ∃ax:UInt8,((0:Int)<=1/\d[Int.toNat 1]?=some ax)/\
 ∃a2:Int,hat m (ad b)=some (.int .u8 a2)/\
 if((ax.toNat:Nat):Int)<a2 then(
 R (.bool false) m)
 else
 ∃z:Int,hat m ((ad b).add 1)=some (.int .u8 z)/\
 ∃a8:UInt8,((0:Int)<=1/\d[Int.toNat 1]?=some a8)/\
 if z< ((a8.toNat:Nat):Int)then(
 R (.bool false) m)
 else
 ∃(a6 az:Nat),2=(a6:Int)/\az=d.size/\a6<=az/\az<=d.size/\
 (I7 (d.extract a6 az) m/\m7 (d.extract a6 az) m<m7 d H1))
 else
 if(IntKind.wrap .i64 (iand .u8 j 7))=3 then(
 if(d.size:Int)<3 then(
 R (.bool false) m)
 else
 ∃ay:UInt8,((0:Int)<=1/\d[Int.toNat 1]?=some ay)/\
 ∃ah:Int,hat m (ad b)=some (.int .u8 ah)/\
 if((ay.toNat:Nat):Int)<ah then(
 R (.bool false) m)
 else
 ∃y:Int,hat m ((ad b).add 1)=some (.int .u8 y)/\
 ∃a3:UInt8,((0:Int)<=1/\d[Int.toNat 1]?=some a3)/\
 if y< ((a3.toNat:Nat):Int)then(
 R (.bool false) m)
 else
 ∃a1:UInt8,((0:Int)<=2/\d[Int.toNat 2]?=some a1)/\
 if((a1.toNat:Nat):Int)<128 then(
 R (.bool false) m)
 else
 ∃a9:UInt8,((0:Int)<=2/\d[Int.toNat 2]?=some a9)/\
 if 191< ((a9.toNat:Nat):Int)then(
 R (.bool false) m)
 else
 ∃(av aa:Nat),3=(av:Int)/\aa=d.size/\av<=aa/\aa<=d.size/\
 (I7 (d.extract av aa) m/\m7 (d.extract av aa) m<m7 d H1))
 else
 if(IntKind.wrap .i64 (iand .u8 j 7))=4 then(
 if(d.size:Int)<4 then(
 R (.bool false) m)
 else
 ∃r:UInt8,((0:Int)<=1/\d[Int.toNat 1]?=some r)/\
 ∃ac:Int,hat m (ad b)=some (.int .u8 ac)/\
 if((r.toNat:Nat):Int)<ac then(
 R (.bool false) m)
 else
 ∃u:Int,hat m ((ad b).add 1)=some (.int .u8 u)/\
 ∃ae:UInt8,((0:Int)<=1/\d[Int.toNat 1]?=some ae)/\
 if u< ((ae.toNat:Nat):Int)then(
 R (.bool false) m)
 else
 ∃aj:UInt8,((0:Int)<=2/\d[Int.toNat 2]?=some aj)/\
 if((aj.toNat:Nat):Int)<128 then(
 R (.bool false) m)
 else
 ∃ak:UInt8,((0:Int)<=2/\d[Int.toNat 2]?=some ak)/\
 if 191< ((ak.toNat:Nat):Int)then(
 R (.bool false) m)
 else
 ∃ag:UInt8,((0:Int)<=3/\d[Int.toNat 3]?=some ag)/\
 if((ag.toNat:Nat):Int)<128 then(
 R (.bool false) m)
 else
 ∃ap:UInt8,((0:Int)<=3/\d[Int.toNat 3]?=some ap)/\
 if 191< ((ap.toNat:Nat):Int)then(
 R (.bool false) m)
 else
 ∃(au af:Nat),4=(au:Int)/\af=d.size/\au<=af/\af<=d.size/\
 (I7 (d.extract au af) m/\m7 (d.extract au af) m<m7 d H1))
 else
 R (.bool false) m)
 else
 R (.bool true) H1
namespace unicode_utf8_ValidString
theorem link{s:ByteArray}{H:Array Obj}{R:Value->Array Obj->Prop}(h:pt s H R):C s H R:=by
 refine T_en K0 169 Tryz.func58 ?_
 intro w0 Q hQ
 unfold pt at h
 refine T_su [(0,.string s)]<| T_srz 0<| T_ed 1 [] []<| T_sz<| T_bz 0 ?_
 obtain⟨I7,m7,i1,i2⟩:=h
 refine S_loop (x:=K6) (σ:=ByteArray) (λs_=> [(0,.string s_)]) (λs_ H=>I7 s_ H) (λs_ H=>m7 s_ H) (s:ByteArray) (by kernel_rfl) i1 sk ?_
 rintro d H1 i3
 have h:=i2 d H1 i3
 refine T_su [(0,.string d)]<| T_sz<| T_srz 1<| T_ed 3 [] [(9,.bool (decide ((d.size:Int)>0)))] ?_
 by_cases c4:(d.size:Int)>0
 ·rw[if_pos c4]at h
  refine T_cTz 9 (decide_eq_true c4)<| T_kt<| T_bz 1<| T_srz 2<| T_nd 1 [9] [(10,.string d)] ?_
  obtain⟨c,q6,h⟩:=h
  refine T_v1 11 (indexN 9 (.string d) (vi 0)) (.int .u8 ((c.toNat:Nat):Int)) (λw _=>indexStr_run (P:=Tryz.prog) (t:=9) (s:=d) (k:=.i64) (i:=0) Tryz.underlying9 q6.1 q6.2 w) [10]<| T_ed 1 [11] [(3,.int .u8 ((c.toNat:Nat):Int))]<| T_sz<| T_srz 3<| T_ed 2 [] [(13,.bool (decide (((c.toNat:Nat):Int)<128)))] ?_
  by_cases c7:((c.toNat:Nat):Int)<128
  ·rw[if_pos c7]at h
   refine T_cTz 13 (decide_eq_true c7)<| T_srz 4<| T_n 1 [(14,.string d)] ?_
   obtain⟨lo,hi,q9,q10,q11,q12,h⟩:=h
   refine T_v1 15 (sliceN 9 (.string d) (some (vi 1)) none none) (.string (d.extract lo hi)) (λw _=>sliceStr_run (P:=Tryz.prog) (t:=9) (s:=d) (some (vi 1)) none lo hi Tryz.underlying9 (.inr ⟨.i64,by rw[q9]⟩) (.inl ⟨rfl,q10⟩) q11 q12 w) [14]<| T_ne 1 [(0,.string (d.extract lo hi))]<| T_sz<| T_sz ?_
   obtain⟨J,h,j15⟩:=h
   refine S_join (σ:=Bool) (λs_=> [(0,.string (d.extract lo hi)),(24,.bool s_)]) (λs_ H=>J s_ H) ?_ ?_
   ·rintro bf H2 j16
    replace h:=j15 bf H2 j16
    refine T_su [(0,.string (d.extract lo hi)),(24,.bool bf)] ?_
    refine S_then ?_
    obtain⟨bg,h,j18⟩:=h
    refine S_join (σ:=ByteArray) (λs_=> [(0,.string s_)]) (λs_ H=>bg s_ H) ?_ ?_
    ·rintro bh H3 j19
     replace h:=j18 bh H3 j19
     refine T_su [(0,.string bh)] ?_
     refine S_then ?_
     refine S_exit 1 (by kernel_rfl) ?_
     refine S_exitThen ?_
     refine S_exitHere ?_
     refine S_then ?_
     exact S_round (bh:ByteArray) sk h
    by_cases c20:bf=true
    ·rw[if_pos c20]at h
     have b21:bf=true:=c20
     refine S_env [(0,.string (d.extract lo hi)),(24,.bool true)] (by simp only[b21,Bool.not_true,Bool.not_false]) ?_
     clear b21
     refine T_tz 24<| T_srz 6<| T_n 1 [(25,.string (d.extract lo hi))] ?_
     obtain⟨g,f,q22,q23,q24,q25,h⟩:=h
     refine T_v1 26 (sliceN 9 (.string (d.extract lo hi)) (some (vi 8)) none none) (.string ((d.extract lo hi).extract g f)) (λw _=>sliceStr_run (P:=Tryz.prog) (t:=9) (s:=(d.extract lo hi)) (some (vi 8)) none g f Tryz.underlying9 (.inr ⟨.i64,by rw[q22]⟩) (.inl ⟨rfl,q23⟩) q24 q25 w) [25]<| T_ne 1 [(0,.string ((d.extract lo hi).extract g f))]<| T_sz ?_
     obtain⟨bj,h,j28⟩:=h
     refine S_join (σ:=Bool) (λs_=> [(0,.string ((d.extract lo hi).extract g f)),(39,.bool s_)]) (λs_ H=>bj s_ H) ?_ ?_
     ·rintro be H4 j29
      replace h:=j28 be H4 j29
      refine T_su [(0,.string ((d.extract lo hi).extract g f)),(39,.bool be)] ?_
      refine S_then ?_
      by_cases c30:be=true
      ·rw[if_pos c30]at h
       have b31:be=true:=c30
       refine S_env [(0,.string ((d.extract lo hi).extract g f)),(39,.bool true)] (by rw[b31]) ?_
       clear b31
       refine T_tz 39<| T_srz 8<| T_n 1 [(40,.string ((d.extract lo hi).extract g f))] ?_
       obtain⟨ba,a4,q32,q33,q34,q35,h⟩:=h
       refine T_v1 41 (sliceN 9 (.string ((d.extract lo hi).extract g f)) (some (vi 16)) none none) (.string (((d.extract lo hi).extract g f).extract ba a4)) (λw _=>sliceStr_run (P:=Tryz.prog) (t:=9) (s:=((d.extract lo hi).extract g f)) (some (vi 16)) none ba a4 Tryz.underlying9 (.inr ⟨.i64,by rw[q32]⟩) (.inl ⟨rfl,q33⟩) q34 q35 w) [40]<| T_ne 1 [(0,.string (((d.extract lo hi).extract g f).extract ba a4))]<| T_bz 2 ?_
       obtain⟨bk,m40,i37,i38⟩:=h
       refine S_loop (x:=K39) (σ:=ByteArray) (λs_=> [(0,.string s_)]) (λs_ H=>bk s_ H) (λs_ H=>m40 s_ H) ((((d.extract lo hi).extract g f).extract ba a4):ByteArray) (by kernel_rfl) i37 sk ?_
       rintro e H5 i39
       have h:=i38 e H5 i39
       refine T_su [(0,.string e)]<| T_sz<| T_sz ?_
       by_cases c40:(e.size:Int)>32
       ·rw[if_pos c40]at h
        obtain⟨an,ab,q42,q43,q44,q45,h⟩:=h
        obtain⟨aq,ai,q47,q48,q49,q50,h⟩:=h
        obtain⟨aw,ao,q52,q53,q54,q55,h⟩:=h
        refine S_regionG 9 (Code.ops K42) [] 21 (bv 21 0) (by kernel_rfl) (by kernel_rfl) (by kernel_rfl) (by kernel_rfl) (by kernel_rfl) (show FactsAt _ _ _ from trivial) ?_
        refine T_gp1 0 42 (.string e) (bv 21 1) []<| T_gp1 1 43 (vi (e.size:Int)) (bv 21 3) [42]<| T_gp1 2 44 (.bool (decide ((e.size:Int)>32))) (bv 21 7) [43]<| T_gp1 3 45 (.bool (decide ((e.size:Int)>32))) (bv 21 15) [44] ?_
        refine G_bd 45 (decide_eq_true c40) ?_
        refine T_gp1 4 46 (.string e) (bv 21 31) []<| T_gp1 6 48 (.string e) (bv 21 95) [] ?_
        refine T_g1 7 49 (.string (e.extract an ab)) (bv 21 223) [48] (sliceN 9 (.string e) (some (vi 8)) none none) (λ_ w _ _ _=>sliceStr_run (P:=Tryz.prog) (t:=9) (s:=e) (some (vi 8)) none an ab Tryz.underlying9 (.inr ⟨.i64,by rw[q42]⟩) (.inl ⟨rfl,q43⟩) q44 q45 w)<| T_gp1 10 52 (.string e) (bv 21 1247) [] ?_
        refine T_g1 11 53 (.string (e.extract aq ai)) (bv 21 3295) [52] (sliceN 9 (.string e) (some (vi 16)) none none) (λ_ w _ _ _=>sliceStr_run (P:=Tryz.prog) (t:=9) (s:=e) (some (vi 16)) none aq ai Tryz.underlying9 (.inr ⟨.i64,by rw[q47]⟩) (.inl ⟨rfl,q48⟩) q49 q50 w)<| T_gp1 13 55 (.string e) (bv 21 11487) [] ?_
        refine T_g1 14 56 (.string (e.extract aw ao)) (bv 21 27871) [55] (sliceN 9 (.string e) (some (vi 24)) none none) (λ_ w _ _ _=>sliceStr_run (P:=Tryz.prog) (t:=9) (s:=e) (some (vi 24)) none aw ao Tryz.underlying9 (.inr ⟨.i64,by rw[q52]⟩) (.inl ⟨rfl,q53⟩) q54 q55 w) ?_
        refine G_call 5 (some 47) (bv 21 27903) 89 #[.string e] (by kernel_rfl) (λ_=>by kernel_rfl) h (by kernel_rfl) ?_;clear h
        rintro v H6 ⟨x,rfl,h⟩
        refine⟨[(0,.string e),(45,.bool true),(47,vu x),(49,.string (e.extract an ab)),(53,.string (e.extract aq ai)),(56,.string (e.extract aw ao))],pk,(show FactsAt _ _ _ from trivial),?_⟩
        refine G_call 8 (some 50) (bv 21 28159) 89 #[.string (e.extract an ab)] (by kernel_rfl) (λ_=>by kernel_rfl) h (by kernel_rfl) ?_;clear h
        rintro bm H7 ⟨o,rfl,h⟩
        refine⟨[(0,.string e),(45,.bool true),(47,vu x),(50,vu o),(53,.string (e.extract aq ai)),(56,.string (e.extract aw ao))],pk,(show FactsAt _ _ _ from trivial),?_⟩
        refine T_g 9 (some 51) (vu (ior .u64 x o)) (bv 21 28671) [(0,.string e),(45,.bool true),(51,vu (ior .u64 x o)),(53,.string (e.extract aq ai)),(56,.string (e.extract aw ao))] (pure (.value (vu (ior .u64 x o))):Sem Next) (λ_ _ _ _ _=>rfl) ?_
        refine G_call 12 (some 54) (bv 21 32767) 89 #[.string (e.extract aq ai)] (by kernel_rfl) (λ_=>by kernel_rfl) h (by kernel_rfl) ?_;clear h
        rintro bs H8 ⟨p,rfl,h⟩
        refine⟨[(0,.string e),(45,.bool true),(51,vu (ior .u64 x o)),(54,vu p),(56,.string (e.extract aw ao))],pk,(show FactsAt _ _ _ from trivial),?_⟩
        refine G_call 15 (some 57) (bv 21 65535) 89 #[.string (e.extract aw ao)] (by kernel_rfl) (λ_=>by kernel_rfl) h (by kernel_rfl) ?_;clear h
        rintro bt H9 ⟨q,rfl,h⟩
        refine⟨[(0,.string e),(45,.bool true),(51,vu (ior .u64 x o)),(54,vu p),(57,vu q)],pk,(show FactsAt _ _ _ from trivial),?_⟩
        refine T_g 16 (some 58) (vu (ior .u64 p q)) (bv 21 131071) [(0,.string e),(45,.bool true),(51,vu (ior .u64 x o)),(58,vu (ior .u64 p q))] (pure (.value (vu (ior .u64 p q))):Sem Next) (λ_ _ _ _ _=>rfl)<| T_g1 17 59 (vu (ior .u64 (ior .u64 x o) (ior .u64 p q))) (bv 21 262143) [51,58] (pure (.value (vu (ior .u64 (ior .u64 x o) (ior .u64 p q)))):Sem Next) (λ_ _ _ _ _=>rfl)<| T_g1 18 60 (vu (iand .u64 (ior .u64 (ior .u64 x o) (ior .u64 p q)) 9259542123273814144)) (bv 21 524287) [59] (pure (.value (vu (iand .u64 (ior .u64 (ior .u64 x o) (ior .u64 p q)) 9259542123273814144))):Sem Next) (λ_ _ _ _ _=>rfl)<| T_g1 19 61 (.bool ((iand .u64 (ior .u64 (ior .u64 x o) (ior .u64 p q)) 9259542123273814144)==0)) (bv 21 1048575) [60] (pure (.value (.bool ((iand .u64 (ior .u64 (ior .u64 x o) (ior .u64 p q)) 9259542123273814144)==0))):Sem Next) (λ_ _ _ _ _=>rfl)<| T_g1 20 62 (.bool ((iand .u64 (ior .u64 (ior .u64 x o) (ior .u64 p q)) 9259542123273814144)==0)) (bv 21 2097151) [45,61] (pure (.value (.bool ((iand .u64 (ior .u64 (ior .u64 x o) (ior .u64 p q)) 9259542123273814144)==0))):Sem Next) (λ_ _ _ _ _=>rfl) ?_
        refine G_sub [(0,.string e),(62,.bool ((iand .u64 (ior .u64 (ior .u64 x o) (ior .u64 p q)) 9259542123273814144)==0))] sk ?_
        refine G_end (by kernel_rfl) ?_
        refine S_then ?_
        by_cases c57:(iand .u64 (ior .u64 (ior .u64 x o) (ior .u64 p q)) 9259542123273814144)=0
        ·rw[if_pos c57]at h
         refine T_cTz 62 (beq_iff_eq.mpr c57)<| T_kt<| T_bz 3<| T_rz 10<| T_n 1 [(63,.string e)] ?_
         obtain⟨a7,a0,q59,q60,q61,q62,h⟩:=h
         refine T_v1 64 (sliceN 9 (.string e) (some (vi 32)) none none) (.string (e.extract a7 a0)) (λw _=>sliceStr_run (P:=Tryz.prog) (t:=9) (s:=e) (some (vi 32)) none a7 a0 Tryz.underlying9 (.inr ⟨.i64,by rw[q59]⟩) (.inl ⟨rfl,q60⟩) q61 q62 w) [63]<| T_n 1 [(0,.string (e.extract a7 a0))] ?_
         refine N_end (by kernel_rfl) ?_
         refine S_blockEnd ?_
         refine S_then ?_
         exact S_round ((e.extract a7 a0):ByteArray) sk h
        rw[if_neg c57]at h
        refine T_cFz 62 (beq_eq_false_iff_ne.mpr c57) ?_
        refine S_exit 2 (by kernel_rfl) ?_
        refine S_exitThen ?_
        refine S_exitThen ?_
        refine S_exitHere ?_
        refine S_then ?_
        exact S_meet (e:ByteArray) sk h
       rw[if_neg c40]at h
       refine S_regionG 9 (Code.ops K42) [] 21 (bv 21 0) (by kernel_rfl) (by kernel_rfl) (by kernel_rfl) (by kernel_rfl) (by kernel_rfl) (show FactsAt _ _ _ from trivial) ?_
       refine T_gp1 0 42 (.string e) (bv 21 1) []<| T_gp1 1 43 (vi (e.size:Int)) (bv 21 3) [42]<| T_gp1 2 44 (.bool (decide ((e.size:Int)>32))) (bv 21 7) [43]<| T_gp1 3 45 (.bool (decide ((e.size:Int)>32))) (bv 21 15) [44] ?_
       refine G_bd 45 (decide_eq_false c40) ?_
       refine T_gsd 4 (some 46) (bv 21 31) [] [(46,undef)]<| T_gsd 5 (some 47) (bv 21 63) [46] [(47,undef)]<| T_gsd 6 (some 48) (bv 21 127) [] [(48,undef)]<| T_gsd 7 (some 49) (bv 21 255) [48] [(49,undef)]<| T_gsd 8 (some 50) (bv 21 511) [49] [(50,undef)]<| T_gsd 9 (some 51) (bv 21 1023) [47,50] [(51,undef)]<| T_gsd 10 (some 52) (bv 21 2047) [] [(52,undef)]<| T_gsd 11 (some 53) (bv 21 4095) [52] [(53,undef)]<| T_gsd 12 (some 54) (bv 21 8191) [53] [(54,undef)] ?_
       refine T_gsd 13 (some 55) (bv 21 16383) [] [(55,undef)]<| T_gsd 14 (some 56) (bv 21 32767) [55] [(56,undef)]<| T_gsd 15 (some 57) (bv 21 65535) [56] [(57,undef)]<| T_gsd 16 (some 58) (bv 21 131071) [54,57] [(58,undef)]<| T_gsd 17 (some 59) (bv 21 262143) [51,58] [(59,undef)]<| T_gsd 18 (some 60) (bv 21 524287) [59] [(60,undef)]<| T_gsd 19 (some 61) (bv 21 1048575) [60] [(61,undef)]<| T_gp1 20 62 (.bool false) (bv 21 2097151) [45,61] ?_
       refine G_sub [(0,.string e),(62,.bool false)] sk ?_
       refine G_end (by kernel_rfl) ?_
       refine S_then ?_
       refine T_fz 62 ?_
       refine S_exit 2 (by kernel_rfl) ?_
       refine S_exitThen ?_
       refine S_exitThen ?_
       refine S_exitHere ?_
       refine S_then ?_
       exact S_meet (e:ByteArray) sk h
      rw[if_neg c30]at h
      have b31:be=false:=eq_false_of_ne_true c30
      refine S_env [(0,.string ((d.extract lo hi).extract g f)),(39,.bool false)] (by rw[b31]) ?_
      clear b31
      refine T_fz 39<| T_kt ?_
      exact S_meet (((d.extract lo hi).extract g f):ByteArray) sk h
     by_cases c64:(((d.extract lo hi).extract g f).size:Int)>16
     ·rw[if_pos c64]at h
      obtain⟨bb,a5,q66,q67,q68,q69,h⟩:=h
      refine S_regionG 7 (Code.ops K32) [] 13 (bv 13 0) (by kernel_rfl) (by kernel_rfl) (by kernel_rfl) (by kernel_rfl) (by kernel_rfl) (show FactsAt _ _ _ from trivial) ?_
      refine T_gp 0 (some 27) (.string ((d.extract lo hi).extract g f)) (bv 13 1) [(0,.string ((d.extract lo hi).extract g f)),(27,.string ((d.extract lo hi).extract g f))]<| T_gp1 1 28 (vi (((d.extract lo hi).extract g f).size:Int)) (bv 13 3) [27]<| T_gp1 2 29 (.bool (decide ((((d.extract lo hi).extract g f).size:Int)>16))) (bv 13 7) [28]<| T_gp1 3 30 (.bool (decide ((((d.extract lo hi).extract g f).size:Int)>16))) (bv 13 15) [29] ?_
      refine G_bd 30 (decide_eq_true c64) ?_
      refine T_gp1 4 31 (.string ((d.extract lo hi).extract g f)) (bv 13 31) []<| T_gp1 6 33 (.string ((d.extract lo hi).extract g f)) (bv 13 95) [] ?_
      refine T_g1 7 34 (.string (((d.extract lo hi).extract g f).extract bb a5)) (bv 13 223) [33] (sliceN 9 (.string ((d.extract lo hi).extract g f)) (some (vi 8)) none none) (λ_ w _ _ _=>sliceStr_run (P:=Tryz.prog) (t:=9) (s:=((d.extract lo hi).extract g f)) (some (vi 8)) none bb a5 Tryz.underlying9 (.inr ⟨.i64,by rw[q66]⟩) (.inl ⟨rfl,q67⟩) q68 q69 w) ?_
      refine G_call 5 (some 32) (bv 13 255) 89 #[.string ((d.extract lo hi).extract g f)] (by kernel_rfl) (λ_=>by kernel_rfl) h (by kernel_rfl) ?_;clear h
      rintro br bp ⟨al,rfl,h⟩
      refine⟨[(0,.string ((d.extract lo hi).extract g f)),(30,.bool true),(32,vu al),(34,.string (((d.extract lo hi).extract g f).extract bb a5))],pk,(show FactsAt _ _ _ from trivial),?_⟩
      refine G_call 8 (some 35) (bv 13 511) 89 #[.string (((d.extract lo hi).extract g f).extract bb a5)] (by kernel_rfl) (λ_=>by kernel_rfl) h (by kernel_rfl) ?_;clear h
      rintro bl bo ⟨am,rfl,h⟩
      refine⟨[(0,.string ((d.extract lo hi).extract g f)),(30,.bool true),(32,vu al),(35,vu am)],pk,(show FactsAt _ _ _ from trivial),?_⟩
      refine T_g 9 (some 36) (vu (ior .u64 al am)) (bv 13 1023) [(0,.string ((d.extract lo hi).extract g f)),(30,.bool true),(36,vu (ior .u64 al am))] (pure (.value (vu (ior .u64 al am))):Sem Next) (λ_ _ _ _ _=>rfl)<| T_g1 10 37 (vu (iand .u64 (ior .u64 al am) 9259542123273814144)) (bv 13 2047) [36] (pure (.value (vu (iand .u64 (ior .u64 al am) 9259542123273814144))):Sem Next) (λ_ _ _ _ _=>rfl)<| T_g1 11 38 (.bool ((iand .u64 (ior .u64 al am) 9259542123273814144)==0)) (bv 13 4095) [37] (pure (.value (.bool ((iand .u64 (ior .u64 al am) 9259542123273814144)==0))):Sem Next) (λ_ _ _ _ _=>rfl)<| T_g1 12 39 (.bool ((iand .u64 (ior .u64 al am) 9259542123273814144)==0)) (bv 13 8191) [30,38] (pure (.value (.bool ((iand .u64 (ior .u64 al am) 9259542123273814144)==0))):Sem Next) (λ_ _ _ _ _=>rfl) ?_
      refine G_sub [(0,.string ((d.extract lo hi).extract g f)),(39,.bool ((iand .u64 (ior .u64 al am) 9259542123273814144)==0))] sk ?_
      refine G_end (by kernel_rfl) ?_
      refine S_then ?_
      exact S_meet (((iand .u64 (ior .u64 al am) 9259542123273814144)==0):Bool) sk h
     rw[if_neg c64]at h
     refine S_regionG 7 (Code.ops K32) [] 13 (bv 13 0) (by kernel_rfl) (by kernel_rfl) (by kernel_rfl) (by kernel_rfl) (by kernel_rfl) (show FactsAt _ _ _ from trivial) ?_
     refine T_gp 0 (some 27) (.string ((d.extract lo hi).extract g f)) (bv 13 1) [(0,.string ((d.extract lo hi).extract g f)),(27,.string ((d.extract lo hi).extract g f))]<| T_gp1 1 28 (vi (((d.extract lo hi).extract g f).size:Int)) (bv 13 3) [27]<| T_gp1 2 29 (.bool (decide ((((d.extract lo hi).extract g f).size:Int)>16))) (bv 13 7) [28]<| T_gp1 3 30 (.bool (decide ((((d.extract lo hi).extract g f).size:Int)>16))) (bv 13 15) [29] ?_
     refine G_bd 30 (decide_eq_false c64) ?_
     refine T_gsd 4 (some 31) (bv 13 31) [] [(31,undef)]<| T_gsd 5 (some 32) (bv 13 63) [31] [(32,undef)]<| T_gsd 6 (some 33) (bv 13 127) [] [(33,undef)]<| T_gsd 7 (some 34) (bv 13 255) [33] [(34,undef)]<| T_gsd 8 (some 35) (bv 13 511) [34] [(35,undef)]<| T_gsd 9 (some 36) (bv 13 1023) [32,35] [(36,undef)]<| T_gsd 10 (some 37) (bv 13 2047) [36] [(37,undef)]<| T_gsd 11 (some 38) (bv 13 4095) [37] [(38,undef)]<| T_gp1 12 39 (.bool false) (bv 13 8191) [30,38] ?_
     refine G_sub [(0,.string ((d.extract lo hi).extract g f)),(39,.bool false)] sk ?_
     refine G_end (by kernel_rfl) ?_
     refine S_then ?_
     exact S_meet (false:Bool) sk h
    rw[if_neg c20]at h
    have b21:bf=false:=eq_false_of_ne_true c20
    refine S_env [(0,.string (d.extract lo hi)),(24,.bool false)] (by simp only[b21,Bool.not_true,Bool.not_false]) ?_
    clear b21
    refine T_fz 24<| T_kt ?_
    exact S_meet ((d.extract lo hi):ByteArray) sk h
   refine T_rz 5<| T_n 4 [(0,.string (d.extract lo hi)),(19,.bool (decide (((d.extract lo hi).size:Int)>8)))] ?_
   by_cases c71:((d.extract lo hi).size:Int)>8
   ·rw[if_pos c71]at h
    have b72:(decide (((d.extract lo hi).size:Int)>8))=true:=decide_eq_true c71
    refine N_env [(0,.string (d.extract lo hi)),(19,.bool true)] (by rw[b72]) ?_
    clear b72
    refine T_nd 1 [] [(20,.string (d.extract lo hi))] ?_
    refine T_c (some 21) h ?_;clear h
    rintro bq bn ⟨bi,rfl,h⟩
    refine T_pd [20] [(21,vu bi)]<| T_ed 3 [19,21] [(24,.bool ((iand .u64 bi 9259542123273814144)==0))] ?_
    exact S_meet (((iand .u64 bi 9259542123273814144)==0):Bool) sk h
   rw[if_neg c71]at h
   have b72:(decide (((d.extract lo hi).size:Int)>8))=false:=decide_eq_false c71
   refine N_env [(0,.string (d.extract lo hi)),(19,.bool false)] (by rw[b72]) ?_
   clear b72
   refine T_ed 5 [19] [(24,.bool false)] ?_
   exact S_meet (false:Bool) sk h
  rw[if_neg c7]at h
  refine T_cFz 13 (decide_eq_false c7)<| T_kt<| T_srz 11<| T_nd 1 [3,13] [(65,.int .u8 ((c.toNat:Nat):Int))] ?_
  obtain⟨q73,h⟩:=h
  refine T_v1 66 (indexAtN 155 (vp (pa 0)) (.int .u8 ((c.toNat:Nat):Int))) (vp (some ((ad 0).add (Int.toNat ((c.toNat:Nat):Int)*1)))) (λw _=>indexArr_run (P:=Tryz.prog) (t:=155) (elem:=5) (sz:=1) (n:=256) (a:=(ad 0)) (k:=.u8) (i:=((c.toNat:Nat):Int)) Tryz.underlying155 (λ_=>by kernel_rfl) q73.1 q73.2 w) [65] ?_
  obtain⟨j,q74,h⟩:=h
  refine T_l1 67 5 q74 [66]<| T_ed 1 [67] [(4,.int .u8 j)]<| T_srz 12<| T_ed 4 [] [(5,vi (IntKind.wrap .i64 (iand .u8 j 7)))]<| T_srz 13<| T_nd 2 [4] [(72,.int .u8 (ishr .u8 j 4))] ?_
  obtain⟨q75,h⟩:=h
  refine T_v1 73 (indexAtN 158 (vp (pa 1)) (.int .u8 (ishr .u8 j 4))) (vp (some ((ad 1).add (Int.toNat (ishr .u8 j 4)*2)))) (λw _=>indexArr_run (P:=Tryz.prog) (t:=158) (elem:=157) (sz:=2) (n:=16) (a:=(ad 1)) (k:=.u8) (i:=(ishr .u8 j 4)) Tryz.underlying158 (λ_=>by kernel_rfl) q75.1 q75.2 w) [72] ?_
  obtain⟨bc,bd,q76,h⟩:=h
  refine T_lr 74 157 q76 [73]<| T_nw (some 6) (λb=>vp (pa b)) (.cells #[.int .u8 0,.int .u8 0] 157) ?_
  intro b H13 e77 e78
  replace h:=h b H13 e77 e78
  refine T_pd [] [(6,vp (pa b))] ?_
  obtain⟨q80,h⟩:=h
  refine T_sta 157 [.int .u8 bc,.int .u8 bd] q80 ?_
  intro m e79
  replace h:=h m e79
  refine T_pd [74] []<| T_e<| T_srz 14<| T_ed 1 [5] [(75,vi (IntKind.wrap .i64 (iand .u8 j 7)))]<| T_bz 4<| T_srz 16<| T_ed 2 [] [(76,.bool ((IntKind.wrap .i64 (iand .u8 j 7))==2))] ?_
  by_cases c81:(IntKind.wrap .i64 (iand .u8 j 7))=2
  ·rw[if_pos c81]at h
   refine T_cTz 76 (beq_iff_eq.mpr c81)<| T_sz<| T_sz<| T_rqz 17<| T_q1 78 (.string d) [75,76]<| T_q1 79 (vi (d.size:Int)) [78]<| T_q1 80 (.bool (decide ((d.size:Int)<2))) [79]<| T_q1 81 (.bool (decide ((d.size:Int)<2))) [80] ?_
   by_cases c83:(d.size:Int)<2
   ·rw[if_pos c83]at h
    refine Q_bd 81 (decide_eq_true c83)<| T_q1 82 (undef) []<| T_q1 83 (undef) [82]<| T_q1 84 (undef) []<| T_q1 85 (undef) [84]<| T_q1 86 (undef) [83,85]<| T_q1 87 (.bool true) [81,86]<| T_q1 88 (.bool true) [87]<| T_q1 89 (undef) [6] ?_
    refine T_q1 90 (undef) [89]<| T_q1 91 (undef) []<| T_q1 92 (undef) [91]<| T_q1 93 (undef) [90,92]<| T_q1 94 (.bool true) [88,93] ?_
    refine Q_sub [(0,.string d),(94,.bool true)] sk ?_
    exact T_qe<| T_tz 94<| T_srz 18<| T_nr 1 [2] [.bool false] hQ h
   rw[if_neg c83]at h
   refine Q_bd 81 (decide_eq_false c83)<| T_q1 82 (.string d) [] ?_
   obtain⟨ax,q85,h⟩:=h
   refine Q_op (some 83) (indexN 9 (.string d) (vi 1)) (.int .u8 ((ax.toNat:Nat):Int)) (λ_=>by kernel_rfl) (λw _=>indexStr_run (P:=Tryz.prog) (t:=9) (s:=d) (k:=.i64) (i:=1) Tryz.underlying9 q85.1 q85.2 w) [(0,.string d),(6,vp (pa b)),(81,.bool false),(83,.int .u8 ((ax.toNat:Nat):Int))] pk ?_
   refine T_q (some 84) (vp (pa b)) [(0,.string d),(6,vp (pa b)),(81,.bool false),(83,.int .u8 ((ax.toNat:Nat):Int)),(84,vp (pa b))] ?_
   obtain⟨a2,q86,h⟩:=h
   refine T_qld (some 85) 5 q86 [84] [(85,.int .u8 a2)]<| T_q1 86 (.bool (decide (((ax.toNat:Nat):Int)<a2))) [83,85]<| T_q1 87 (.bool (decide (((ax.toNat:Nat):Int)<a2))) [81,86]<| T_q1 88 (.bool (decide (((ax.toNat:Nat):Int)<a2))) [87] ?_
   by_cases c87:((ax.toNat:Nat):Int)<a2
   ·rw[if_pos c87]at h
    refine Q_bd 88 (decide_eq_true c87)<| T_q1 89 (undef) [6]<| T_q1 90 (undef) [89]<| T_q1 91 (undef) []<| T_q1 92 (undef) [91]<| T_q1 93 (undef) [90,92]<| T_q1 94 (.bool true) [88,93] ?_
    refine Q_sub [(0,.string d),(94,.bool true)] sk ?_
    exact T_qe<| T_tz 94<| T_srz 18<| T_nr 1 [2] [.bool false] hQ h
   rw[if_neg c87]at h
   refine Q_bd 88 (decide_eq_false c87)<| T_q1 89 (vp (some ((ad b).add 1))) [6] ?_
   obtain⟨z,q89,h⟩:=h
   refine T_qld (some 90) 5 q89 [89] [(90,.int .u8 z)]<| T_q1 91 (.string d) [] ?_
   obtain⟨a8,q90,h⟩:=h
   refine Q_op (some 92) (indexN 9 (.string d) (vi 1)) (.int .u8 ((a8.toNat:Nat):Int)) (λ_=>by kernel_rfl) (λw _=>indexStr_run (P:=Tryz.prog) (t:=9) (s:=d) (k:=.i64) (i:=1) Tryz.underlying9 q90.1 q90.2 w) [(0,.string d),(88,.bool false),(90,.int .u8 z),(92,.int .u8 ((a8.toNat:Nat):Int))] pk ?_
   refine T_q (some 93) (.bool (decide (z< ((a8.toNat:Nat):Int)))) [(0,.string d),(88,.bool false),(93,.bool (decide (z< ((a8.toNat:Nat):Int))))]<| T_q1 94 (.bool (decide (z< ((a8.toNat:Nat):Int)))) [88,93] ?_
   refine Q_sub [(0,.string d),(94,.bool (decide (z< ((a8.toNat:Nat):Int))))] sk ?_
   refine T_qe ?_
   by_cases c91:z< ((a8.toNat:Nat):Int)
   ·rw[if_pos c91]at h
    exact T_cTz 94 (decide_eq_true c91)<| T_srz 18<| T_nr 1 [2] [.bool false] hQ h
   rw[if_neg c91]at h
   refine T_cFz 94 (decide_eq_false c91)<| T_kt<| T_rz 19<| T_n 1 [(95,.string d)] ?_
   obtain⟨a6,az,q93,q94,q95,q96,h⟩:=h
   refine T_v1 96 (sliceN 9 (.string d) (some (vi 2)) none none) (.string (d.extract a6 az)) (λw _=>sliceStr_run (P:=Tryz.prog) (t:=9) (s:=d) (some (vi 2)) none a6 az Tryz.underlying9 (.inr ⟨.i64,by rw[q93]⟩) (.inl ⟨rfl,q94⟩) q95 q96 w) [95]<| T_n 1 [(0,.string (d.extract a6 az))] ?_
   refine N_end (by kernel_rfl) ?_
   refine S_blockEnd ?_
   refine S_blockEnd ?_
   refine S_then ?_
   exact S_round ((d.extract a6 az):ByteArray) sk h
  rw[if_neg c81]at h
  refine T_cFz 76 (beq_eq_false_iff_ne.mpr c81)<| T_srz 20<| T_ed 2 [76] [(97,.bool ((IntKind.wrap .i64 (iand .u8 j 7))==3))] ?_
  by_cases c98:(IntKind.wrap .i64 (iand .u8 j 7))=3
  ·rw[if_pos c98]at h
   refine T_cTz 97 (beq_iff_eq.mpr c98)<| T_sz<| T_sz<| T_rqz 21<| T_q1 99 (.string d) [75,97]<| T_q1 100 (vi (d.size:Int)) [99]<| T_q1 101 (.bool (decide ((d.size:Int)<3))) [100]<| T_q1 102 (.bool (decide ((d.size:Int)<3))) [101] ?_
   by_cases c100:(d.size:Int)<3
   ·rw[if_pos c100]at h
    refine Q_bd 102 (decide_eq_true c100)<| T_q1 103 (undef) []<| T_q1 104 (undef) [103]<| T_q1 105 (undef) []<| T_q1 106 (undef) [105]<| T_q1 107 (undef) [104,106]<| T_q1 108 (.bool true) [102,107]<| T_q1 109 (.bool true) [108]<| T_q1 110 (undef) [6] ?_
    refine T_q1 111 (undef) [110]<| T_q1 112 (undef) []<| T_q1 113 (undef) [112]<| T_q1 114 (undef) [111,113]<| T_q1 115 (.bool true) [109,114]<| T_q1 116 (.bool true) [115]<| T_q1 117 (undef) []<| T_q1 118 (undef) [117]<| T_q1 119 (undef) [118] ?_
    refine T_q1 120 (.bool true) [116,119]<| T_q1 121 (.bool true) [120]<| T_q1 122 (undef) []<| T_q1 123 (undef) [122]<| T_q1 124 (undef) [123]<| T_q1 125 (.bool true) [121,124] ?_
    refine Q_sub [(0,.string d),(125,.bool true)] sk ?_
    exact T_qe<| T_tz 125<| T_srz 22<| T_nr 1 [2] [.bool false] hQ h
   rw[if_neg c100]at h
   refine Q_bd 102 (decide_eq_false c100)<| T_q1 103 (.string d) [] ?_
   obtain⟨ay,q102,h⟩:=h
   refine Q_op (some 104) (indexN 9 (.string d) (vi 1)) (.int .u8 ((ay.toNat:Nat):Int)) (λ_=>by kernel_rfl) (λw _=>indexStr_run (P:=Tryz.prog) (t:=9) (s:=d) (k:=.i64) (i:=1) Tryz.underlying9 q102.1 q102.2 w) [(0,.string d),(6,vp (pa b)),(102,.bool false),(104,.int .u8 ((ay.toNat:Nat):Int))] pk ?_
   refine T_q (some 105) (vp (pa b)) [(0,.string d),(6,vp (pa b)),(102,.bool false),(104,.int .u8 ((ay.toNat:Nat):Int)),(105,vp (pa b))] ?_
   obtain⟨ah,q103,h⟩:=h
   refine T_qld (some 106) 5 q103 [105] [(106,.int .u8 ah)]<| T_q1 107 (.bool (decide (((ay.toNat:Nat):Int)<ah))) [104,106]<| T_q1 108 (.bool (decide (((ay.toNat:Nat):Int)<ah))) [102,107]<| T_q1 109 (.bool (decide (((ay.toNat:Nat):Int)<ah))) [108] ?_
   by_cases c104:((ay.toNat:Nat):Int)<ah
   ·rw[if_pos c104]at h
    refine Q_bd 109 (decide_eq_true c104)<| T_q1 110 (undef) [6]<| T_q1 111 (undef) [110]<| T_q1 112 (undef) []<| T_q1 113 (undef) [112]<| T_q1 114 (undef) [111,113]<| T_q1 115 (.bool true) [109,114]<| T_q1 116 (.bool true) [115]<| T_q1 117 (undef) [] ?_
    refine T_q1 118 (undef) [117]<| T_q1 119 (undef) [118]<| T_q1 120 (.bool true) [116,119]<| T_q1 121 (.bool true) [120]<| T_q1 122 (undef) []<| T_q1 123 (undef) [122]<| T_q1 124 (undef) [123]<| T_q1 125 (.bool true) [121,124] ?_
    refine Q_sub [(0,.string d),(125,.bool true)] sk ?_
    exact T_qe<| T_tz 125<| T_srz 22<| T_nr 1 [2] [.bool false] hQ h
   rw[if_neg c104]at h
   refine Q_bd 109 (decide_eq_false c104)<| T_q1 110 (vp (some ((ad b).add 1))) [6] ?_
   obtain⟨y,q106,h⟩:=h
   refine T_qld (some 111) 5 q106 [110] [(111,.int .u8 y)]<| T_q1 112 (.string d) [] ?_
   obtain⟨a3,q107,h⟩:=h
   refine Q_op (some 113) (indexN 9 (.string d) (vi 1)) (.int .u8 ((a3.toNat:Nat):Int)) (λ_=>by kernel_rfl) (λw _=>indexStr_run (P:=Tryz.prog) (t:=9) (s:=d) (k:=.i64) (i:=1) Tryz.underlying9 q107.1 q107.2 w) [(0,.string d),(109,.bool false),(111,.int .u8 y),(113,.int .u8 ((a3.toNat:Nat):Int))] pk ?_
   refine T_q (some 114) (.bool (decide (y< ((a3.toNat:Nat):Int)))) [(0,.string d),(109,.bool false),(114,.bool (decide (y< ((a3.toNat:Nat):Int))))]<| T_q1 115 (.bool (decide (y< ((a3.toNat:Nat):Int)))) [109,114]<| T_q1 116 (.bool (decide (y< ((a3.toNat:Nat):Int)))) [115] ?_
   by_cases c108:y< ((a3.toNat:Nat):Int)
   ·rw[if_pos c108]at h
    refine Q_bd 116 (decide_eq_true c108)<| T_q1 117 (undef) []<| T_q1 118 (undef) [117]<| T_q1 119 (undef) [118]<| T_q1 120 (.bool true) [116,119]<| T_q1 121 (.bool true) [120]<| T_q1 122 (undef) []<| T_q1 123 (undef) [122]<| T_q1 124 (undef) [123] ?_
    refine T_q1 125 (.bool true) [121,124] ?_
    refine Q_sub [(0,.string d),(125,.bool true)] sk ?_
    exact T_qe<| T_tz 125<| T_srz 22<| T_nr 1 [2] [.bool false] hQ h
   rw[if_neg c108]at h
   refine Q_bd 116 (decide_eq_false c108)<| T_q1 117 (.string d) [] ?_
   obtain⟨a1,q110,h⟩:=h
   refine Q_op (some 118) (indexN 9 (.string d) (vi 2)) (.int .u8 ((a1.toNat:Nat):Int)) (λ_=>by kernel_rfl) (λw _=>indexStr_run (P:=Tryz.prog) (t:=9) (s:=d) (k:=.i64) (i:=2) Tryz.underlying9 q110.1 q110.2 w) [(0,.string d),(116,.bool false),(118,.int .u8 ((a1.toNat:Nat):Int))] pk ?_
   refine T_q (some 119) (.bool (decide (((a1.toNat:Nat):Int)<128))) [(0,.string d),(116,.bool false),(119,.bool (decide (((a1.toNat:Nat):Int)<128)))]<| T_q1 120 (.bool (decide (((a1.toNat:Nat):Int)<128))) [116,119]<| T_q1 121 (.bool (decide (((a1.toNat:Nat):Int)<128))) [120] ?_
   by_cases c111:((a1.toNat:Nat):Int)<128
   ·rw[if_pos c111]at h
    refine Q_bd 121 (decide_eq_true c111)<| T_q1 122 (undef) []<| T_q1 123 (undef) [122]<| T_q1 124 (undef) [123]<| T_q1 125 (.bool true) [121,124] ?_
    refine Q_sub [(0,.string d),(125,.bool true)] sk ?_
    exact T_qe<| T_tz 125<| T_srz 22<| T_nr 1 [2] [.bool false] hQ h
   rw[if_neg c111]at h
   refine Q_bd 121 (decide_eq_false c111)<| T_q1 122 (.string d) [] ?_
   obtain⟨a9,q113,h⟩:=h
   refine Q_op (some 123) (indexN 9 (.string d) (vi 2)) (.int .u8 ((a9.toNat:Nat):Int)) (λ_=>by kernel_rfl) (λw _=>indexStr_run (P:=Tryz.prog) (t:=9) (s:=d) (k:=.i64) (i:=2) Tryz.underlying9 q113.1 q113.2 w) [(0,.string d),(121,.bool false),(123,.int .u8 ((a9.toNat:Nat):Int))] pk ?_
   refine T_q (some 124) (.bool (decide (191< ((a9.toNat:Nat):Int)))) [(0,.string d),(121,.bool false),(124,.bool (decide (191< ((a9.toNat:Nat):Int))))]<| T_q1 125 (.bool (decide (191< ((a9.toNat:Nat):Int)))) [121,124] ?_
   refine Q_sub [(0,.string d),(125,.bool (decide (191< ((a9.toNat:Nat):Int))))] sk ?_
   refine T_qe ?_
   by_cases c114:191< ((a9.toNat:Nat):Int)
   ·rw[if_pos c114]at h
    exact T_cTz 125 (decide_eq_true c114)<| T_srz 22<| T_nr 1 [2] [.bool false] hQ h
   rw[if_neg c114]at h
   refine T_cFz 125 (decide_eq_false c114)<| T_kt<| T_rz 23<| T_n 1 [(126,.string d)] ?_
   obtain⟨av,aa,q116,q117,q118,q119,h⟩:=h
   refine T_v1 127 (sliceN 9 (.string d) (some (vi 3)) none none) (.string (d.extract av aa)) (λw _=>sliceStr_run (P:=Tryz.prog) (t:=9) (s:=d) (some (vi 3)) none av aa Tryz.underlying9 (.inr ⟨.i64,by rw[q116]⟩) (.inl ⟨rfl,q117⟩) q118 q119 w) [126]<| T_n 1 [(0,.string (d.extract av aa))] ?_
   refine N_end (by kernel_rfl) ?_
   refine S_blockEnd ?_
   refine S_blockEnd ?_
   refine S_then ?_
   exact S_round ((d.extract av aa):ByteArray) sk h
  rw[if_neg c98]at h
  refine T_cFz 97 (beq_eq_false_iff_ne.mpr c98)<| T_srz 24<| T_ed 2 [75,97] [(128,.bool ((IntKind.wrap .i64 (iand .u8 j 7))==4))] ?_
  by_cases c121:(IntKind.wrap .i64 (iand .u8 j 7))=4
  ·rw[if_pos c121]at h
   refine T_cTz 128 (beq_iff_eq.mpr c121)<| T_sz<| T_sz<| T_rqz 25<| T_q1 130 (.string d) [128]<| T_q1 131 (vi (d.size:Int)) [130]<| T_q1 132 (.bool (decide ((d.size:Int)<4))) [131]<| T_q1 133 (.bool (decide ((d.size:Int)<4))) [132] ?_
   by_cases c123:(d.size:Int)<4
   ·rw[if_pos c123]at h
    refine Q_bd 133 (decide_eq_true c123)<| T_q1 134 (undef) []<| T_q1 135 (undef) [134]<| T_q1 136 (undef) []<| T_q1 137 (undef) [136]<| T_q1 138 (undef) [135,137]<| T_q1 139 (.bool true) [133,138]<| T_q1 140 (.bool true) [139]<| T_q1 141 (undef) [6] ?_
    refine T_q1 142 (undef) [141]<| T_q1 143 (undef) []<| T_q1 144 (undef) [143]<| T_q1 145 (undef) [142,144]<| T_q1 146 (.bool true) [140,145]<| T_q1 147 (.bool true) [146]<| T_q1 148 (undef) []<| T_q1 149 (undef) [148]<| T_q1 150 (undef) [149] ?_
    refine T_q1 151 (.bool true) [147,150]<| T_q1 152 (.bool true) [151]<| T_q1 153 (undef) []<| T_q1 154 (undef) [153]<| T_q1 155 (undef) [154]<| T_q1 156 (.bool true) [152,155]<| T_q1 157 (.bool true) [156]<| T_q1 158 (undef) []<| T_q1 159 (undef) [158] ?_
    refine T_q1 160 (undef) [159]<| T_q1 161 (.bool true) [157,160]<| T_q1 162 (.bool true) [161]<| T_q1 163 (undef) []<| T_q1 164 (undef) [163]<| T_q1 165 (undef) [164]<| T_q1 166 (.bool true) [162,165] ?_
    refine Q_sub [(0,.string d),(166,.bool true)] sk ?_
    exact T_qe<| T_tz 166<| T_srz 26<| T_nr 1 [2] [.bool false] hQ h
   rw[if_neg c123]at h
   refine Q_bd 133 (decide_eq_false c123)<| T_q1 134 (.string d) [] ?_
   obtain⟨r,q125,h⟩:=h
   refine Q_op (some 135) (indexN 9 (.string d) (vi 1)) (.int .u8 ((r.toNat:Nat):Int)) (λ_=>by kernel_rfl) (λw _=>indexStr_run (P:=Tryz.prog) (t:=9) (s:=d) (k:=.i64) (i:=1) Tryz.underlying9 q125.1 q125.2 w) [(0,.string d),(6,vp (pa b)),(133,.bool false),(135,.int .u8 ((r.toNat:Nat):Int))] pk ?_
   refine T_q (some 136) (vp (pa b)) [(0,.string d),(6,vp (pa b)),(133,.bool false),(135,.int .u8 ((r.toNat:Nat):Int)),(136,vp (pa b))] ?_
   obtain⟨ac,q126,h⟩:=h
   refine T_qld (some 137) 5 q126 [136] [(137,.int .u8 ac)]<| T_q1 138 (.bool (decide (((r.toNat:Nat):Int)<ac))) [135,137]<| T_q1 139 (.bool (decide (((r.toNat:Nat):Int)<ac))) [133,138]<| T_q1 140 (.bool (decide (((r.toNat:Nat):Int)<ac))) [139] ?_
   by_cases c127:((r.toNat:Nat):Int)<ac
   ·rw[if_pos c127]at h
    refine Q_bd 140 (decide_eq_true c127)<| T_q1 141 (undef) [6]<| T_q1 142 (undef) [141]<| T_q1 143 (undef) []<| T_q1 144 (undef) [143]<| T_q1 145 (undef) [142,144]<| T_q1 146 (.bool true) [140,145]<| T_q1 147 (.bool true) [146]<| T_q1 148 (undef) [] ?_
    refine T_q1 149 (undef) [148]<| T_q1 150 (undef) [149]<| T_q1 151 (.bool true) [147,150]<| T_q1 152 (.bool true) [151]<| T_q1 153 (undef) []<| T_q1 154 (undef) [153]<| T_q1 155 (undef) [154]<| T_q1 156 (.bool true) [152,155]<| T_q1 157 (.bool true) [156] ?_
    refine T_q1 158 (undef) []<| T_q1 159 (undef) [158]<| T_q1 160 (undef) [159]<| T_q1 161 (.bool true) [157,160]<| T_q1 162 (.bool true) [161]<| T_q1 163 (undef) []<| T_q1 164 (undef) [163]<| T_q1 165 (undef) [164]<| T_q1 166 (.bool true) [162,165] ?_
    refine Q_sub [(0,.string d),(166,.bool true)] sk ?_
    exact T_qe<| T_tz 166<| T_srz 26<| T_nr 1 [2] [.bool false] hQ h
   rw[if_neg c127]at h
   refine Q_bd 140 (decide_eq_false c127)<| T_q1 141 (vp (some ((ad b).add 1))) [6] ?_
   obtain⟨u,q129,h⟩:=h
   refine T_qld (some 142) 5 q129 [141] [(142,.int .u8 u)]<| T_q1 143 (.string d) [] ?_
   obtain⟨ae,q130,h⟩:=h
   refine Q_op (some 144) (indexN 9 (.string d) (vi 1)) (.int .u8 ((ae.toNat:Nat):Int)) (λ_=>by kernel_rfl) (λw _=>indexStr_run (P:=Tryz.prog) (t:=9) (s:=d) (k:=.i64) (i:=1) Tryz.underlying9 q130.1 q130.2 w) [(0,.string d),(140,.bool false),(142,.int .u8 u),(144,.int .u8 ((ae.toNat:Nat):Int))] pk ?_
   refine T_q (some 145) (.bool (decide (u< ((ae.toNat:Nat):Int)))) [(0,.string d),(140,.bool false),(145,.bool (decide (u< ((ae.toNat:Nat):Int))))]<| T_q1 146 (.bool (decide (u< ((ae.toNat:Nat):Int)))) [140,145]<| T_q1 147 (.bool (decide (u< ((ae.toNat:Nat):Int)))) [146] ?_
   by_cases c131:u< ((ae.toNat:Nat):Int)
   ·rw[if_pos c131]at h
    refine Q_bd 147 (decide_eq_true c131)<| T_q1 148 (undef) []<| T_q1 149 (undef) [148]<| T_q1 150 (undef) [149]<| T_q1 151 (.bool true) [147,150]<| T_q1 152 (.bool true) [151]<| T_q1 153 (undef) []<| T_q1 154 (undef) [153]<| T_q1 155 (undef) [154] ?_
    refine T_q1 156 (.bool true) [152,155]<| T_q1 157 (.bool true) [156]<| T_q1 158 (undef) []<| T_q1 159 (undef) [158]<| T_q1 160 (undef) [159]<| T_q1 161 (.bool true) [157,160]<| T_q1 162 (.bool true) [161]<| T_q1 163 (undef) []<| T_q1 164 (undef) [163] ?_
    refine T_q1 165 (undef) [164]<| T_q1 166 (.bool true) [162,165] ?_
    refine Q_sub [(0,.string d),(166,.bool true)] sk ?_
    exact T_qe<| T_tz 166<| T_srz 26<| T_nr 1 [2] [.bool false] hQ h
   rw[if_neg c131]at h
   refine Q_bd 147 (decide_eq_false c131)<| T_q1 148 (.string d) [] ?_
   obtain⟨aj,q133,h⟩:=h
   refine Q_op (some 149) (indexN 9 (.string d) (vi 2)) (.int .u8 ((aj.toNat:Nat):Int)) (λ_=>by kernel_rfl) (λw _=>indexStr_run (P:=Tryz.prog) (t:=9) (s:=d) (k:=.i64) (i:=2) Tryz.underlying9 q133.1 q133.2 w) [(0,.string d),(147,.bool false),(149,.int .u8 ((aj.toNat:Nat):Int))] pk ?_
   refine T_q (some 150) (.bool (decide (((aj.toNat:Nat):Int)<128))) [(0,.string d),(147,.bool false),(150,.bool (decide (((aj.toNat:Nat):Int)<128)))]<| T_q1 151 (.bool (decide (((aj.toNat:Nat):Int)<128))) [147,150]<| T_q1 152 (.bool (decide (((aj.toNat:Nat):Int)<128))) [151] ?_
   by_cases c134:((aj.toNat:Nat):Int)<128
   ·rw[if_pos c134]at h
    refine Q_bd 152 (decide_eq_true c134)<| T_q1 153 (undef) []<| T_q1 154 (undef) [153]<| T_q1 155 (undef) [154]<| T_q1 156 (.bool true) [152,155]<| T_q1 157 (.bool true) [156]<| T_q1 158 (undef) []<| T_q1 159 (undef) [158]<| T_q1 160 (undef) [159] ?_
    refine T_q1 161 (.bool true) [157,160]<| T_q1 162 (.bool true) [161]<| T_q1 163 (undef) []<| T_q1 164 (undef) [163]<| T_q1 165 (undef) [164]<| T_q1 166 (.bool true) [162,165] ?_
    refine Q_sub [(0,.string d),(166,.bool true)] sk ?_
    exact T_qe<| T_tz 166<| T_srz 26<| T_nr 1 [2] [.bool false] hQ h
   rw[if_neg c134]at h
   refine Q_bd 152 (decide_eq_false c134)<| T_q1 153 (.string d) [] ?_
   obtain⟨ak,q136,h⟩:=h
   refine Q_op (some 154) (indexN 9 (.string d) (vi 2)) (.int .u8 ((ak.toNat:Nat):Int)) (λ_=>by kernel_rfl) (λw _=>indexStr_run (P:=Tryz.prog) (t:=9) (s:=d) (k:=.i64) (i:=2) Tryz.underlying9 q136.1 q136.2 w) [(0,.string d),(152,.bool false),(154,.int .u8 ((ak.toNat:Nat):Int))] pk ?_
   refine T_q (some 155) (.bool (decide (191< ((ak.toNat:Nat):Int)))) [(0,.string d),(152,.bool false),(155,.bool (decide (191< ((ak.toNat:Nat):Int))))]<| T_q1 156 (.bool (decide (191< ((ak.toNat:Nat):Int)))) [152,155]<| T_q1 157 (.bool (decide (191< ((ak.toNat:Nat):Int)))) [156] ?_
   by_cases c137:191< ((ak.toNat:Nat):Int)
   ·rw[if_pos c137]at h
    refine Q_bd 157 (decide_eq_true c137)<| T_q1 158 (undef) []<| T_q1 159 (undef) [158]<| T_q1 160 (undef) [159]<| T_q1 161 (.bool true) [157,160]<| T_q1 162 (.bool true) [161]<| T_q1 163 (undef) []<| T_q1 164 (undef) [163]<| T_q1 165 (undef) [164] ?_
    refine T_q1 166 (.bool true) [162,165] ?_
    refine Q_sub [(0,.string d),(166,.bool true)] sk ?_
    exact T_qe<| T_tz 166<| T_srz 26<| T_nr 1 [2] [.bool false] hQ h
   rw[if_neg c137]at h
   refine Q_bd 157 (decide_eq_false c137)<| T_q1 158 (.string d) [] ?_
   obtain⟨ag,q139,h⟩:=h
   refine Q_op (some 159) (indexN 9 (.string d) (vi 3)) (.int .u8 ((ag.toNat:Nat):Int)) (λ_=>by kernel_rfl) (λw _=>indexStr_run (P:=Tryz.prog) (t:=9) (s:=d) (k:=.i64) (i:=3) Tryz.underlying9 q139.1 q139.2 w) [(0,.string d),(157,.bool false),(159,.int .u8 ((ag.toNat:Nat):Int))] pk ?_
   refine T_q (some 160) (.bool (decide (((ag.toNat:Nat):Int)<128))) [(0,.string d),(157,.bool false),(160,.bool (decide (((ag.toNat:Nat):Int)<128)))]<| T_q1 161 (.bool (decide (((ag.toNat:Nat):Int)<128))) [157,160]<| T_q1 162 (.bool (decide (((ag.toNat:Nat):Int)<128))) [161] ?_
   by_cases c140:((ag.toNat:Nat):Int)<128
   ·rw[if_pos c140]at h
    refine Q_bd 162 (decide_eq_true c140)<| T_q1 163 (undef) []<| T_q1 164 (undef) [163]<| T_q1 165 (undef) [164]<| T_q1 166 (.bool true) [162,165] ?_
    refine Q_sub [(0,.string d),(166,.bool true)] sk ?_
    exact T_qe<| T_tz 166<| T_srz 26<| T_nr 1 [2] [.bool false] hQ h
   rw[if_neg c140]at h
   refine Q_bd 162 (decide_eq_false c140)<| T_q1 163 (.string d) [] ?_
   obtain⟨ap,q142,h⟩:=h
   refine Q_op (some 164) (indexN 9 (.string d) (vi 3)) (.int .u8 ((ap.toNat:Nat):Int)) (λ_=>by kernel_rfl) (λw _=>indexStr_run (P:=Tryz.prog) (t:=9) (s:=d) (k:=.i64) (i:=3) Tryz.underlying9 q142.1 q142.2 w) [(0,.string d),(162,.bool false),(164,.int .u8 ((ap.toNat:Nat):Int))] pk ?_
   refine T_q (some 165) (.bool (decide (191< ((ap.toNat:Nat):Int)))) [(0,.string d),(162,.bool false),(165,.bool (decide (191< ((ap.toNat:Nat):Int))))]<| T_q1 166 (.bool (decide (191< ((ap.toNat:Nat):Int)))) [162,165] ?_
   refine Q_sub [(0,.string d),(166,.bool (decide (191< ((ap.toNat:Nat):Int))))] sk ?_
   refine T_qe ?_
   by_cases c143:191< ((ap.toNat:Nat):Int)
   ·rw[if_pos c143]at h
    exact T_cTz 166 (decide_eq_true c143)<| T_srz 26<| T_nr 1 [2] [.bool false] hQ h
   rw[if_neg c143]at h
   refine T_cFz 166 (decide_eq_false c143)<| T_kt<| T_rz 27<| T_n 1 [(167,.string d)] ?_
   obtain⟨au,af,q145,q146,q147,q148,h⟩:=h
   refine T_v1 168 (sliceN 9 (.string d) (some (vi 4)) none none) (.string (d.extract au af)) (λw _=>sliceStr_run (P:=Tryz.prog) (t:=9) (s:=d) (some (vi 4)) none au af Tryz.underlying9 (.inr ⟨.i64,by rw[q145]⟩) (.inl ⟨rfl,q146⟩) q147 q148 w) [167]<| T_n 1 [(0,.string (d.extract au af))] ?_
   refine N_end (by kernel_rfl) ?_
   refine S_blockEnd ?_
   refine S_blockEnd ?_
   refine S_then ?_
   exact S_round ((d.extract au af):ByteArray) sk h
  rw[if_neg c121]at h
  exact T_cFz 128 (beq_eq_false_iff_ne.mpr c121)<| T_srz 15<| T_nr 1 [2] [.bool false] hQ h
 rw[if_neg c4]at h
 refine T_cFz 9 (decide_eq_false c4) ?_
 refine S_exit 0 (by kernel_rfl) ?_
 refine S_exitThen ?_
 refine S_exitThen ?_
 refine S_exitHere ?_
 refine S_then ?_
 exact T_srz 28<| T_nr 1 [2] [.bool true] hQ h
end unicode_utf8_ValidString

/-! unicode/utf8.RuneCountInString -/
namespace unicode_utf8_RuneCountInString
def K0:=Func.code Tryz.f59
def K2:=cb K0
def K3:=ca K2
def K6:=cb K3
def K7:=ca K6
def K8:=ca K7
end unicode_utf8_RuneCountInString
def unicode_utf8_RuneCountInString.pt(s:ByteArray)(H:Array Obj)(R:Value->Array Obj->Prop):Prop:=
 ∀(b:Nat) (H1:Array Obj),b=H.size->H1=H.push (.stringIter s 0)->
 ∃(I9:Int->Array Obj->Prop) (m9:Int->Array Obj->Nat),I9 0 H1/\ ∀(nv:Int) (H2:Array Obj),I9 nv H2->
 ∃(a:ByteArray) (pos:Nat),H2[b]?=some (.stringIter a pos)/\
 if pos<a.size then(∀H3:Array Obj,H3=setBlk H2 b (.stringIter a (pos+(Utf8.decode a pos).2))->
 (I9 (IntKind.wrap .i64 (nv+1)) H3/\m9 (IntKind.wrap .i64 (nv+1)) H3<m9 nv H2))
 else
 R (.int .i64 nv) H2
namespace unicode_utf8_RuneCountInString
theorem link{s:ByteArray}{H:Array Obj}{R:Value->Array Obj->Prop}(h:pt s H R):C s H R:=by
 refine T_en K0 10 Tryz.func59 ?_
 intro w0 Q hQ
 unfold pt at h
 refine T_su [(0,.string s)]<| T_srz 0<| T_ed 1 [] [(2,vi 0)]<| T_sz<| T_srz 1<| T_nd 1 [0] [(3,.string s)]<| T_nw (some 4) (λb=>vp (pa b)) (.stringIter s 0) ?_
 intro b H1 e1 e2
 replace h:=h b H1 e1 e2
 refine T_pd [3] [(4,vp (pa b))]<| T_e<| T_bz 0 ?_
 obtain⟨I9,m9,i3,i4⟩:=h
 refine S_loop (x:=K8) (σ:=Int) (λs_=> [(2,vi s_),(4,vp (pa b))]) (λs_ H=>I9 s_ H) (λs_ H=>m9 s_ H) (0:Int) (by kernel_rfl) i3 sk ?_
 rintro nv H2 i5
 have h:=i4 nv H2 i5
 refine T_su [(2,vi nv),(4,vp (pa b))]<| T_srz 2 ?_
 obtain⟨a,pos,q6,h⟩:=h
 by_cases c7:pos<a.size
 ·rw[if_pos c7]at h
  refine N_op (some 5) (nextN (vp (pa b)) true 0) _ (λ_=>by kernel_rfl) (next_go q6 c7) ?_
  rintro _ H3 ⟨rfl,e8⟩
  replace h:=h H3 (by assumption)
  refine T_pd [] [(5,.tuple #[.bool true,vi pos,.int .i32 ((Utf8.decode a pos).1:Int)])]<| T_ed 1 [5] [(6,.bool true)]<| T_sz<| T_tz 6<| T_kt<| T_bz 1<| T_rz 3<| T_nd 3 [2,6] [(2,vi (IntKind.wrap .i64 (nv+1)))] ?_
  refine N_end (by kernel_rfl) ?_
  refine S_blockEnd ?_
  refine S_then ?_
  exact S_round ((IntKind.wrap .i64 (nv+1)):Int) sk h
 rw[if_neg c7]at h
 refine N_op (some 5) (nextN (vp (pa b)) true 0) _ (λ_=>by kernel_rfl) (next_end q6 c7) ?_
 rintro _ _ ⟨rfl,rfl⟩
 refine T_pd [] [(5,.tuple #[.bool false])]<| T_ed 1 [5] [(6,.bool false)]<| T_sz<| T_fz 6 ?_
 refine S_exit 0 (by kernel_rfl) ?_
 refine S_exitThen ?_
 refine S_exitThen ?_
 refine S_exitHere ?_
 refine S_then ?_
 exact T_srz 4<| T_nr 2 [2] [vi nv] hQ h
end unicode_utf8_RuneCountInString

/-! unicode/utf8.ValidRune -/
namespace unicode_utf8_ValidRune
def K0:=Func.code Tryz.f83
end unicode_utf8_ValidRune
def unicode_utf8_ValidRune.pt(r:Int)(H:Array Obj)(R:Value->Array Obj->Prop):Prop:=
 if((decide (0<=r)) && (decide (r<55296)))=true then(
 R (.bool true) H)
 else
 if((decide (57343<r)) && (decide (r<=1114111)))=true then(
 R (.bool true) H)
 else
 R (.bool false) H
namespace unicode_utf8_ValidRune
theorem link{r:Int}{H:Array Obj}{R:Value->Array Obj->Prop}(h:pt r H R):C r H R:=by
 refine T_en K0 17 Tryz.func83 ?_
 intro w0 Q hQ
 unfold pt at h
 refine T_su [(0,.int .i32 r)]<| T_srz 0<| T_ed 1 [] []<| T_sz<| T_bz 0<| T_srz 1 ?_
 refine N_cut [(0,.int .i32 r),(3,.bool ((decide (0<=r)) && (decide (r<55296))))] ?_ ?_
 ·refine S_then ?_
  by_cases c3:((decide (0<=r)) && (decide (r<55296)))=true
  ·rw[if_pos c3]at h
   exact T_cTz 3 c3<| T_srz 2<| T_nr 1 [2] [.bool true] hQ h
  rw[if_neg c3]at h
  refine T_cFz 3 (eq_false_of_ne_true c3)<| T_srz 3 ?_
  refine N_cut [(10,.bool ((decide (57343<r)) && (decide (r<=1114111))))] ?_ ?_
  ·refine S_then ?_
   by_cases c7:((decide (57343<r)) && (decide (r<=1114111)))=true
   ·rw[if_pos c7]at h
    exact T_cTz 10 c7<| T_srz 4<| T_nr 1 [2] [.bool true] hQ h
   rw[if_neg c7]at h
   refine T_cFz 10 (eq_false_of_ne_true c7)<| T_k ?_
   refine S_blockEnd ?_
   refine S_then ?_
   exact T_srz 5<| T_nr 1 [2] [.bool false] hQ h
  intro hk
  refine T_n 3 [(0,.int .i32 r),(13,.bool (decide (57343<r)))] ?_
  by_cases c5:57343<r
  ·have b6:(decide (57343<r))=true:=decide_eq_true c5
   refine N_env [(0,.int .i32 r),(13,.bool true)] (by rw[b6]) ?_
   refine T_n 4 [(10,.bool (decide (r<=1114111)))] ?_
   refine N_end (by kernel_rfl) ?_
   refine S_env [(10,.bool ((decide (57343<r)) && (decide (r<=1114111))))] (by simp only[b6,BL]) ?_
   exact hk
  have b6:(decide (57343<r))=false:=decide_eq_false c5
  refine N_env [(0,.int .i32 r),(13,.bool false)] (by rw[b6]) ?_
  refine T_n 4 [(10,.bool false)] ?_
  refine N_end (by kernel_rfl) ?_
  refine S_env [(10,.bool ((decide (57343<r)) && (decide (r<=1114111))))] (by simp only[b6,BL]) ?_
  exact hk
 intro hk
 refine T_n 3 [(0,.int .i32 r),(6,.bool (decide (0<=r)))] ?_
 by_cases c1:0<=r
 ·have b2:(decide (0<=r))=true:=decide_eq_true c1
  refine N_env [(0,.int .i32 r),(6,.bool true)] (by rw[b2]) ?_
  refine T_nd 4 [6] [(3,.bool (decide (r<55296)))] ?_
  refine N_end (by kernel_rfl) ?_
  refine S_bd 3 (b:=(decide (r<55296))) (v:=((decide (0<=r)) && (decide (r<55296)))) (by simp only[b2,BL]) ?_
  exact hk
 have b2:(decide (0<=r))=false:=decide_eq_false c1
 refine N_env [(0,.int .i32 r),(6,.bool false)] (by rw[b2]) ?_
 refine T_nd 4 [6] [(3,.bool false)] ?_
 refine N_end (by kernel_rfl) ?_
 refine S_bd 3 (b:=false) (v:=((decide (0<=r)) && (decide (r<55296)))) (by simp only[b2,BL]) ?_
 exact hk
end unicode_utf8_ValidRune

/-! unicode/utf8.word[string] -/
namespace unicode_utf8_word_string
def K0:=Func.code Tryz.f89
def K2:=cb K0
def K3:=ca K2
def K5:=ca K3
def K6:=cb K3
end unicode_utf8_word_string
def unicode_utf8_word_string.pt(s:ByteArray)(H:Array Obj)(R:Value->Array Obj->Prop):Prop:=
 ∃c:UInt8,((0:Int)<=0/\s[Int.toNat 0]?=some c)/\
 ∃a:UInt8,((0:Int)<=1/\s[Int.toNat 1]?=some a)/\
 ∃b:UInt8,((0:Int)<=2/\s[Int.toNat 2]?=some b)/\
 ∃d:UInt8,((0:Int)<=3/\s[Int.toNat 3]?=some d)/\
 ∃e:UInt8,((0:Int)<=4/\s[Int.toNat 4]?=some e)/\
 ∃f:UInt8,((0:Int)<=5/\s[Int.toNat 5]?=some f)/\
 ∃g:UInt8,((0:Int)<=6/\s[Int.toNat 6]?=some g)/\
 ∃j:UInt8,((0:Int)<=7/\s[Int.toNat 7]?=some j)/\
 R (.int .u64 (ior .u64 (ior .u64 (ior .u64 (ior .u64 (ior .u64 (ior .u64 (ior .u64 (IntKind.wrap .u64 ((c.toNat:Nat):Int)) (ishl .u64 (IntKind.wrap .u64 ((a.toNat:Nat):Int)) 8)) (ishl .u64 (IntKind.wrap .u64 ((b.toNat:Nat):Int)) 16)) (ishl .u64 (IntKind.wrap .u64 ((d.toNat:Nat):Int)) 24)) (ishl .u64 (IntKind.wrap .u64 ((e.toNat:Nat):Int)) 32)) (ishl .u64 (IntKind.wrap .u64 ((f.toNat:Nat):Int)) 40)) (ishl .u64 (IntKind.wrap .u64 ((g.toNat:Nat):Int)) 48)) (ishl .u64 (IntKind.wrap .u64 ((j.toNat:Nat):Int)) 56))) H
namespace unicode_utf8_word_string
theorem link{s:ByteArray}{H:Array Obj}{R:Value->Array Obj->Prop}(h:pt s H R):C s H R:=by
 refine T_en K0 59 Tryz.func89 ?_
 intro w0 Q hQ
 unfold pt at h
 refine T_su [(0,.string s)]<| T_srz 0<| T_ed 1 [] []<| T_sz ?_
 refine S_condF (.const (.bool false)) K5 K6 (by kernel_rfl) (by kernel_rfl) ?_
 refine T_kt<| T_sz<| T_rqz 2<| T_q1 21 (.string s) [] ?_
 obtain⟨c,q1,h⟩:=h
 refine Q_op (some 22) (indexN 9 (.string s) (vi 0)) (.int .u8 ((c.toNat:Nat):Int)) (λ_=>by kernel_rfl) (λw _=>indexStr_run (P:=Tryz.prog) (t:=9) (s:=s) (k:=.i64) (i:=0) Tryz.underlying9 q1.1 q1.2 w) [(0,.string s),(22,.int .u8 ((c.toNat:Nat):Int))] pk ?_
 refine T_q (some 23) (vu (IntKind.wrap .u64 ((c.toNat:Nat):Int))) [(0,.string s),(23,vu (IntKind.wrap .u64 ((c.toNat:Nat):Int)))]<| T_q1 24 (.string s) [] ?_
 obtain⟨a,q2,h⟩:=h
 refine Q_op (some 25) (indexN 9 (.string s) (vi 1)) (.int .u8 ((a.toNat:Nat):Int)) (λ_=>by kernel_rfl) (λw _=>indexStr_run (P:=Tryz.prog) (t:=9) (s:=s) (k:=.i64) (i:=1) Tryz.underlying9 q2.1 q2.2 w) [(0,.string s),(23,vu (IntKind.wrap .u64 ((c.toNat:Nat):Int))),(25,.int .u8 ((a.toNat:Nat):Int))] pk ?_
 refine T_q (some 26) (vu (IntKind.wrap .u64 ((a.toNat:Nat):Int))) [(0,.string s),(23,vu (IntKind.wrap .u64 ((c.toNat:Nat):Int))),(26,vu (IntKind.wrap .u64 ((a.toNat:Nat):Int)))]<| T_q1 27 (vu (ishl .u64 (IntKind.wrap .u64 ((a.toNat:Nat):Int)) 8)) [26]<| T_q1 28 (vu (ior .u64 (IntKind.wrap .u64 ((c.toNat:Nat):Int)) (ishl .u64 (IntKind.wrap .u64 ((a.toNat:Nat):Int)) 8))) [23,27]<| T_q1 29 (.string s) [] ?_
 obtain⟨b,q3,h⟩:=h
 refine Q_op (some 30) (indexN 9 (.string s) (vi 2)) (.int .u8 ((b.toNat:Nat):Int)) (λ_=>by kernel_rfl) (λw _=>indexStr_run (P:=Tryz.prog) (t:=9) (s:=s) (k:=.i64) (i:=2) Tryz.underlying9 q3.1 q3.2 w) [(0,.string s),(28,vu (ior .u64 (IntKind.wrap .u64 ((c.toNat:Nat):Int)) (ishl .u64 (IntKind.wrap .u64 ((a.toNat:Nat):Int)) 8))),(30,.int .u8 ((b.toNat:Nat):Int))] pk ?_
 refine T_q (some 31) (vu (IntKind.wrap .u64 ((b.toNat:Nat):Int))) [(0,.string s),(28,vu (ior .u64 (IntKind.wrap .u64 ((c.toNat:Nat):Int)) (ishl .u64 (IntKind.wrap .u64 ((a.toNat:Nat):Int)) 8))),(31,vu (IntKind.wrap .u64 ((b.toNat:Nat):Int)))]<| T_q1 32 (vu (ishl .u64 (IntKind.wrap .u64 ((b.toNat:Nat):Int)) 16)) [31]<| T_q1 33 (vu (ior .u64 (ior .u64 (IntKind.wrap .u64 ((c.toNat:Nat):Int)) (ishl .u64 (IntKind.wrap .u64 ((a.toNat:Nat):Int)) 8)) (ishl .u64 (IntKind.wrap .u64 ((b.toNat:Nat):Int)) 16))) [28,32]<| T_q1 34 (.string s) [] ?_
 obtain⟨d,q4,h⟩:=h
 refine Q_op (some 35) (indexN 9 (.string s) (vi 3)) (.int .u8 ((d.toNat:Nat):Int)) (λ_=>by kernel_rfl) (λw _=>indexStr_run (P:=Tryz.prog) (t:=9) (s:=s) (k:=.i64) (i:=3) Tryz.underlying9 q4.1 q4.2 w) [(0,.string s),(33,vu (ior .u64 (ior .u64 (IntKind.wrap .u64 ((c.toNat:Nat):Int)) (ishl .u64 (IntKind.wrap .u64 ((a.toNat:Nat):Int)) 8)) (ishl .u64 (IntKind.wrap .u64 ((b.toNat:Nat):Int)) 16))),(35,.int .u8 ((d.toNat:Nat):Int))] pk ?_
 refine T_q (some 36) (vu (IntKind.wrap .u64 ((d.toNat:Nat):Int))) [(0,.string s),(33,vu (ior .u64 (ior .u64 (IntKind.wrap .u64 ((c.toNat:Nat):Int)) (ishl .u64 (IntKind.wrap .u64 ((a.toNat:Nat):Int)) 8)) (ishl .u64 (IntKind.wrap .u64 ((b.toNat:Nat):Int)) 16))),(36,vu (IntKind.wrap .u64 ((d.toNat:Nat):Int)))]<| T_q1 37 (vu (ishl .u64 (IntKind.wrap .u64 ((d.toNat:Nat):Int)) 24)) [36]<| T_q1 38 (vu (ior .u64 (ior .u64 (ior .u64 (IntKind.wrap .u64 ((c.toNat:Nat):Int)) (ishl .u64 (IntKind.wrap .u64 ((a.toNat:Nat):Int)) 8)) (ishl .u64 (IntKind.wrap .u64 ((b.toNat:Nat):Int)) 16)) (ishl .u64 (IntKind.wrap .u64 ((d.toNat:Nat):Int)) 24))) [33,37]<| T_q1 39 (.string s) [] ?_
 obtain⟨e,q5,h⟩:=h
 refine Q_op (some 40) (indexN 9 (.string s) (vi 4)) (.int .u8 ((e.toNat:Nat):Int)) (λ_=>by kernel_rfl) (λw _=>indexStr_run (P:=Tryz.prog) (t:=9) (s:=s) (k:=.i64) (i:=4) Tryz.underlying9 q5.1 q5.2 w) [(0,.string s),(38,vu (ior .u64 (ior .u64 (ior .u64 (IntKind.wrap .u64 ((c.toNat:Nat):Int)) (ishl .u64 (IntKind.wrap .u64 ((a.toNat:Nat):Int)) 8)) (ishl .u64 (IntKind.wrap .u64 ((b.toNat:Nat):Int)) 16)) (ishl .u64 (IntKind.wrap .u64 ((d.toNat:Nat):Int)) 24))),(40,.int .u8 ((e.toNat:Nat):Int))] pk ?_
 refine T_q (some 41) (vu (IntKind.wrap .u64 ((e.toNat:Nat):Int))) [(0,.string s),(38,vu (ior .u64 (ior .u64 (ior .u64 (IntKind.wrap .u64 ((c.toNat:Nat):Int)) (ishl .u64 (IntKind.wrap .u64 ((a.toNat:Nat):Int)) 8)) (ishl .u64 (IntKind.wrap .u64 ((b.toNat:Nat):Int)) 16)) (ishl .u64 (IntKind.wrap .u64 ((d.toNat:Nat):Int)) 24))),(41,vu (IntKind.wrap .u64 ((e.toNat:Nat):Int)))]<| T_q1 42 (vu (ishl .u64 (IntKind.wrap .u64 ((e.toNat:Nat):Int)) 32)) [41]<| T_q1 43 (vu (ior .u64 (ior .u64 (ior .u64 (ior .u64 (IntKind.wrap .u64 ((c.toNat:Nat):Int)) (ishl .u64 (IntKind.wrap .u64 ((a.toNat:Nat):Int)) 8)) (ishl .u64 (IntKind.wrap .u64 ((b.toNat:Nat):Int)) 16)) (ishl .u64 (IntKind.wrap .u64 ((d.toNat:Nat):Int)) 24)) (ishl .u64 (IntKind.wrap .u64 ((e.toNat:Nat):Int)) 32))) [38,42]<| T_q1 44 (.string s) [] ?_
 obtain⟨f,q6,h⟩:=h
 refine Q_op (some 45) (indexN 9 (.string s) (vi 5)) (.int .u8 ((f.toNat:Nat):Int)) (λ_=>by kernel_rfl) (λw _=>indexStr_run (P:=Tryz.prog) (t:=9) (s:=s) (k:=.i64) (i:=5) Tryz.underlying9 q6.1 q6.2 w) [(0,.string s),(43,vu (ior .u64 (ior .u64 (ior .u64 (ior .u64 (IntKind.wrap .u64 ((c.toNat:Nat):Int)) (ishl .u64 (IntKind.wrap .u64 ((a.toNat:Nat):Int)) 8)) (ishl .u64 (IntKind.wrap .u64 ((b.toNat:Nat):Int)) 16)) (ishl .u64 (IntKind.wrap .u64 ((d.toNat:Nat):Int)) 24)) (ishl .u64 (IntKind.wrap .u64 ((e.toNat:Nat):Int)) 32))),(45,.int .u8 ((f.toNat:Nat):Int))] pk ?_
 refine T_q (some 46) (vu (IntKind.wrap .u64 ((f.toNat:Nat):Int))) [(0,.string s),(43,vu (ior .u64 (ior .u64 (ior .u64 (ior .u64 (IntKind.wrap .u64 ((c.toNat:Nat):Int)) (ishl .u64 (IntKind.wrap .u64 ((a.toNat:Nat):Int)) 8)) (ishl .u64 (IntKind.wrap .u64 ((b.toNat:Nat):Int)) 16)) (ishl .u64 (IntKind.wrap .u64 ((d.toNat:Nat):Int)) 24)) (ishl .u64 (IntKind.wrap .u64 ((e.toNat:Nat):Int)) 32))),(46,vu (IntKind.wrap .u64 ((f.toNat:Nat):Int)))]<| T_q1 47 (vu (ishl .u64 (IntKind.wrap .u64 ((f.toNat:Nat):Int)) 40)) [46]<| T_q1 48 (vu (ior .u64 (ior .u64 (ior .u64 (ior .u64 (ior .u64 (IntKind.wrap .u64 ((c.toNat:Nat):Int)) (ishl .u64 (IntKind.wrap .u64 ((a.toNat:Nat):Int)) 8)) (ishl .u64 (IntKind.wrap .u64 ((b.toNat:Nat):Int)) 16)) (ishl .u64 (IntKind.wrap .u64 ((d.toNat:Nat):Int)) 24)) (ishl .u64 (IntKind.wrap .u64 ((e.toNat:Nat):Int)) 32)) (ishl .u64 (IntKind.wrap .u64 ((f.toNat:Nat):Int)) 40))) [43,47]<| T_q1 49 (.string s) [] ?_
 obtain⟨g,q7,h⟩:=h
 refine Q_op (some 50) (indexN 9 (.string s) (vi 6)) (.int .u8 ((g.toNat:Nat):Int)) (λ_=>by kernel_rfl) (λw _=>indexStr_run (P:=Tryz.prog) (t:=9) (s:=s) (k:=.i64) (i:=6) Tryz.underlying9 q7.1 q7.2 w) [(0,.string s),(48,vu (ior .u64 (ior .u64 (ior .u64 (ior .u64 (ior .u64 (IntKind.wrap .u64 ((c.toNat:Nat):Int)) (ishl .u64 (IntKind.wrap .u64 ((a.toNat:Nat):Int)) 8)) (ishl .u64 (IntKind.wrap .u64 ((b.toNat:Nat):Int)) 16)) (ishl .u64 (IntKind.wrap .u64 ((d.toNat:Nat):Int)) 24)) (ishl .u64 (IntKind.wrap .u64 ((e.toNat:Nat):Int)) 32)) (ishl .u64 (IntKind.wrap .u64 ((f.toNat:Nat):Int)) 40))),(50,.int .u8 ((g.toNat:Nat):Int))] pk ?_
 refine T_q (some 51) (vu (IntKind.wrap .u64 ((g.toNat:Nat):Int))) [(0,.string s),(48,vu (ior .u64 (ior .u64 (ior .u64 (ior .u64 (ior .u64 (IntKind.wrap .u64 ((c.toNat:Nat):Int)) (ishl .u64 (IntKind.wrap .u64 ((a.toNat:Nat):Int)) 8)) (ishl .u64 (IntKind.wrap .u64 ((b.toNat:Nat):Int)) 16)) (ishl .u64 (IntKind.wrap .u64 ((d.toNat:Nat):Int)) 24)) (ishl .u64 (IntKind.wrap .u64 ((e.toNat:Nat):Int)) 32)) (ishl .u64 (IntKind.wrap .u64 ((f.toNat:Nat):Int)) 40))),(51,vu (IntKind.wrap .u64 ((g.toNat:Nat):Int)))]<| T_q1 52 (vu (ishl .u64 (IntKind.wrap .u64 ((g.toNat:Nat):Int)) 48)) [51]<| T_q1 53 (vu (ior .u64 (ior .u64 (ior .u64 (ior .u64 (ior .u64 (ior .u64 (IntKind.wrap .u64 ((c.toNat:Nat):Int)) (ishl .u64 (IntKind.wrap .u64 ((a.toNat:Nat):Int)) 8)) (ishl .u64 (IntKind.wrap .u64 ((b.toNat:Nat):Int)) 16)) (ishl .u64 (IntKind.wrap .u64 ((d.toNat:Nat):Int)) 24)) (ishl .u64 (IntKind.wrap .u64 ((e.toNat:Nat):Int)) 32)) (ishl .u64 (IntKind.wrap .u64 ((f.toNat:Nat):Int)) 40)) (ishl .u64 (IntKind.wrap .u64 ((g.toNat:Nat):Int)) 48))) [48,52]<| T_q1 54 (.string s) [0] ?_
 obtain⟨j,q8,h⟩:=h
 refine Q_op (some 55) (indexN 9 (.string s) (vi 7)) (.int .u8 ((j.toNat:Nat):Int)) (λ_=>by kernel_rfl) (λw _=>indexStr_run (P:=Tryz.prog) (t:=9) (s:=s) (k:=.i64) (i:=7) Tryz.underlying9 q8.1 q8.2 w) [(53,vu (ior .u64 (ior .u64 (ior .u64 (ior .u64 (ior .u64 (ior .u64 (IntKind.wrap .u64 ((c.toNat:Nat):Int)) (ishl .u64 (IntKind.wrap .u64 ((a.toNat:Nat):Int)) 8)) (ishl .u64 (IntKind.wrap .u64 ((b.toNat:Nat):Int)) 16)) (ishl .u64 (IntKind.wrap .u64 ((d.toNat:Nat):Int)) 24)) (ishl .u64 (IntKind.wrap .u64 ((e.toNat:Nat):Int)) 32)) (ishl .u64 (IntKind.wrap .u64 ((f.toNat:Nat):Int)) 40)) (ishl .u64 (IntKind.wrap .u64 ((g.toNat:Nat):Int)) 48))),(55,.int .u8 ((j.toNat:Nat):Int))] pk ?_
 refine T_q (some 56) (vu (IntKind.wrap .u64 ((j.toNat:Nat):Int))) [(53,vu (ior .u64 (ior .u64 (ior .u64 (ior .u64 (ior .u64 (ior .u64 (IntKind.wrap .u64 ((c.toNat:Nat):Int)) (ishl .u64 (IntKind.wrap .u64 ((a.toNat:Nat):Int)) 8)) (ishl .u64 (IntKind.wrap .u64 ((b.toNat:Nat):Int)) 16)) (ishl .u64 (IntKind.wrap .u64 ((d.toNat:Nat):Int)) 24)) (ishl .u64 (IntKind.wrap .u64 ((e.toNat:Nat):Int)) 32)) (ishl .u64 (IntKind.wrap .u64 ((f.toNat:Nat):Int)) 40)) (ishl .u64 (IntKind.wrap .u64 ((g.toNat:Nat):Int)) 48))),(56,vu (IntKind.wrap .u64 ((j.toNat:Nat):Int)))]<| T_q1 57 (vu (ishl .u64 (IntKind.wrap .u64 ((j.toNat:Nat):Int)) 56)) [56]<| T_q1 58 (vu (ior .u64 (ior .u64 (ior .u64 (ior .u64 (ior .u64 (ior .u64 (ior .u64 (IntKind.wrap .u64 ((c.toNat:Nat):Int)) (ishl .u64 (IntKind.wrap .u64 ((a.toNat:Nat):Int)) 8)) (ishl .u64 (IntKind.wrap .u64 ((b.toNat:Nat):Int)) 16)) (ishl .u64 (IntKind.wrap .u64 ((d.toNat:Nat):Int)) 24)) (ishl .u64 (IntKind.wrap .u64 ((e.toNat:Nat):Int)) 32)) (ishl .u64 (IntKind.wrap .u64 ((f.toNat:Nat):Int)) 40)) (ishl .u64 (IntKind.wrap .u64 ((g.toNat:Nat):Int)) 48)) (ishl .u64 (IntKind.wrap .u64 ((j.toNat:Nat):Int)) 56))) [53,57]<| T_q1 2 (vu (ior .u64 (ior .u64 (ior .u64 (ior .u64 (ior .u64 (ior .u64 (ior .u64 (IntKind.wrap .u64 ((c.toNat:Nat):Int)) (ishl .u64 (IntKind.wrap .u64 ((a.toNat:Nat):Int)) 8)) (ishl .u64 (IntKind.wrap .u64 ((b.toNat:Nat):Int)) 16)) (ishl .u64 (IntKind.wrap .u64 ((d.toNat:Nat):Int)) 24)) (ishl .u64 (IntKind.wrap .u64 ((e.toNat:Nat):Int)) 32)) (ishl .u64 (IntKind.wrap .u64 ((f.toNat:Nat):Int)) 40)) (ishl .u64 (IntKind.wrap .u64 ((g.toNat:Nat):Int)) 48)) (ishl .u64 (IntKind.wrap .u64 ((j.toNat:Nat):Int)) 56))) [58] ?_
 refine Q_sub [(2,vu (ior .u64 (ior .u64 (ior .u64 (ior .u64 (ior .u64 (ior .u64 (ior .u64 (IntKind.wrap .u64 ((c.toNat:Nat):Int)) (ishl .u64 (IntKind.wrap .u64 ((a.toNat:Nat):Int)) 8)) (ishl .u64 (IntKind.wrap .u64 ((b.toNat:Nat):Int)) 16)) (ishl .u64 (IntKind.wrap .u64 ((d.toNat:Nat):Int)) 24)) (ishl .u64 (IntKind.wrap .u64 ((e.toNat:Nat):Int)) 32)) (ishl .u64 (IntKind.wrap .u64 ((f.toNat:Nat):Int)) 40)) (ishl .u64 (IntKind.wrap .u64 ((g.toNat:Nat):Int)) 48)) (ishl .u64 (IntKind.wrap .u64 ((j.toNat:Nat):Int)) 56)))] sk ?_
 exact T_qe<| T_ret [2] [vu (ior .u64 (ior .u64 (ior .u64 (ior .u64 (ior .u64 (ior .u64 (ior .u64 (IntKind.wrap .u64 ((c.toNat:Nat):Int)) (ishl .u64 (IntKind.wrap .u64 ((a.toNat:Nat):Int)) 8)) (ishl .u64 (IntKind.wrap .u64 ((b.toNat:Nat):Int)) 16)) (ishl .u64 (IntKind.wrap .u64 ((d.toNat:Nat):Int)) 24)) (ishl .u64 (IntKind.wrap .u64 ((e.toNat:Nat):Int)) 32)) (ishl .u64 (IntKind.wrap .u64 ((f.toNat:Nat):Int)) 40)) (ishl .u64 (IntKind.wrap .u64 ((g.toNat:Nat):Int)) 48)) (ishl .u64 (IntKind.wrap .u64 ((j.toNat:Nat):Int)) 56))] hQ h
end unicode_utf8_word_string

end Go.Proofs.YtibpklpgmgakcaaGreatDoor
