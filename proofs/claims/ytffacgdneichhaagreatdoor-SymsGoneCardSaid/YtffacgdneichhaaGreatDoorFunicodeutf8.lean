/- Printed: what each function asks, and that it is sound. -/
import Derived.Test.YtffacgdneichhaaGreatDoorFnsC
set_option linter.unusedSimpArgs false
set_option linter.unusedVariables false
set_option maxRecDepth 100000
set_option maxHeartbeats 1000000
noncomputable section
namespace Go.Proofs.YtffacgdneichhaaGreatDoor
open Go
/-! unicode/utf8.ValidString -/
namespace aP
def K0:=Func.code Tryz.f27
def K2:=cb K0
def K3:=ca K2
def K5:=ca K3
def K6:=ca K5
def K8:=cb K6
def K13:=ca K8
def K15:=cb K13
def K16:=ca K15
def K19:=cb K16
def K20:=ca K19
def K23:=cb K20
def K24:=ca K23
def K27:=cb K24
def K28:=ca K27
def K31:=cb K28
def K32:=ca K31
def K33:=cb K31
def K34:=ca K33
def K37:=cb K34
def K38:=ca K37
def K39:=ca K38
def K40:=ca K39
def K42:=ca K40
end aP
def aP.pt(s:ByteArray)(H:zV)(R:zk):Prop:=
 ∃(I7:ByteArray->zV->Prop) (m7:ByteArray->zV->Nat),I7 s H/\ ∀(d:ByteArray) (H1:zV),I7 d H1->
 if(d.size:Int)>0 then(
 ∃c:UInt8,((0:Int)<=0/\d[Int.toNat 0]?=some c)/\
 if((c.toNat:Nat):Int)<128 then(
 ∃(lo hi:Nat),1=(lo:Int)/\hi=d.size/\lo<=hi/\hi<=d.size/\
 ∃J:Bool->zV->Prop,(
 if((d.extract lo hi).size:Int)>8 then(
 aQ.C (d.extract lo hi) H1 (λbr bp=> ∃bj:Int,br=.int .u64 bj/\
 J ((iand .u64 bj 9259542123273814144)==0) bp))
 else
 J false H1)/\ ∀(bf:Bool) (H2:zV),J bf H2->
 ∃bh:ByteArray->zV->Prop,(
 if bf=true then(
 ∃(j g:Nat),8=(j:Int)/\g=(d.extract lo hi).size/\j<=g/\g<=(d.extract lo hi).size/\
 ∃bk:Bool->zV->Prop,(
 if(((d.extract lo hi).extract j g).size:Int)>16 then(
 ∃(bc a5:Nat),8=(bc:Int)/\a5=((d.extract lo hi).extract j g).size/\bc<=a5/\a5<=((d.extract lo hi).extract j g).size/\
 aQ.C ((d.extract lo hi).extract j g) H2 (λbt bq=> ∃ai:Int,bt=.int .u64 ai/\
 aQ.C (((d.extract lo hi).extract j g).extract bc a5) bq (λbm bo=> ∃an:Int,bm=.int .u64 an/\
 bk ((iand .u64 (ior .u64 ai an) 9259542123273814144)==0) bo)))
 else
 bk false H2)/\ ∀(bg:Bool) (H4:zV),bk bg H4->
 if bg=true then(
 ∃(bb a8:Nat),16=(bb:Int)/\a8=((d.extract lo hi).extract j g).size/\bb<=a8/\a8<=((d.extract lo hi).extract j g).size/\
 ∃(bl:ByteArray->zV->Prop) (m40:ByteArray->zV->Nat),bl (((d.extract lo hi).extract j g).extract bb a8) H4/\ ∀(f:ByteArray) (H5:zV),bl f H5->
 if(f.size:Int)>32 then(
 ∃(au ak:Nat),8=(au:Int)/\ak=f.size/\au<=ak/\ak<=f.size/\
 ∃(aq al:Nat),16=(aq:Int)/\al=f.size/\aq<=al/\al<=f.size/\
 ∃(ax ap:Nat),24=(ax:Int)/\ap=f.size/\ax<=ap/\ap<=f.size/\
 aQ.C f H5 (λv H6=> ∃x:Int,v=.int .u64 x/\
 aQ.C (f.extract au ak) H6 (λbu H7=> ∃o:Int,bu=.int .u64 o/\
 aQ.C (f.extract aq al) H7 (λbs H8=> ∃p:Int,bs=.int .u64 p/\
 aQ.C (f.extract ax ap) H8 (λbn H9=> ∃r:Int,bn=.int .u64 r/\
 if(iand .u64 (ior .u64 (ior .u64 x o) (ior .u64 p r)) 9259542123273814144)=0 then(
 ∃(a7 a1:Nat),32=(a7:Int)/\a1=f.size/\a7<=a1/\a1<=f.size/\
 (bl (f.extract a7 a1) H9/\m40 (f.extract a7 a1) H9<m40 f H5))
 else
 bh f H9)))))
 else
 bh f H5)
 else
 bh ((d.extract lo hi).extract j g) H4)
 else
 bh (d.extract lo hi) H2)/\ ∀(bi:ByteArray) (H3:zV),bh bi H3->
 (I7 bi H3/\m7 bi H3<m7 d H1))
 else
 ((0:Int)<=((c.toNat:Nat):Int)/\((c.toNat:Nat):Int)< (256:Int))/\
 ∃l:Int,hat H1 ((ad 0).add (Int.toNat ((c.toNat:Nat):Int)*1))=some (.int .u8 l)/\
 ((0:Int)<=(ishr .u8 l 4)/\(ishr .u8 l 4)< (16:Int))/\
 ∃bd be:Int,aU H1 ((ad 1).add (Int.toNat (ishr .u8 l 4)*2)) 0 [.int .u8 bd,.int .u8 be]/\
 ∀(b:Nat) (H13:zV),b=H1.size->H13=H1.push (.cells #[.int .u8 0,.int .u8 0] 128)->
 (aI H13 (ad b) 0 2)/\ ∀m,m=aO H13 (ad b) [.int .u8 bd,.int .u8 be] 0->
 if(zY (iand .u8 l 7))=2 then(
 if(d.size:Int)<2 then(
 R (.bool false) m)
 else
 ∃az:UInt8,((0:Int)<=1/\d[Int.toNat 1]?=some az)/\
 ∃a4:Int,hat m (ad b)=some (.int .u8 a4)/\
 if((az.toNat:Nat):Int)<a4 then(
 R (.bool false) m)
 else
 ∃aa:Int,hat m ((ad b).add 1)=some (.int .u8 aa)/\
 ∃a9:UInt8,((0:Int)<=1/\d[Int.toNat 1]?=some a9)/\
 if aa< ((a9.toNat:Nat):Int)then(
 R (.bool false) m)
 else
 ∃(a6 a0:Nat),2=(a6:Int)/\a0=d.size/\a6<=a0/\a0<=d.size/\
 (I7 (d.extract a6 a0) m/\m7 (d.extract a6 a0) m<m7 d H1))
 else
 if(zY (iand .u8 l 7))=3 then(
 if(d.size:Int)<3 then(
 R (.bool false) m)
 else
 ∃ay:UInt8,((0:Int)<=1/\d[Int.toNat 1]?=some ay)/\
 ∃ac:Int,hat m (ad b)=some (.int .u8 ac)/\
 if((ay.toNat:Nat):Int)<ac then(
 R (.bool false) m)
 else
 ∃z:Int,hat m ((ad b).add 1)=some (.int .u8 z)/\
 ∃a2:UInt8,((0:Int)<=1/\d[Int.toNat 1]?=some a2)/\
 if z< ((a2.toNat:Nat):Int)then(
 R (.bool false) m)
 else
 ∃a3:UInt8,((0:Int)<=2/\d[Int.toNat 2]?=some a3)/\
 if((a3.toNat:Nat):Int)<128 then(
 R (.bool false) m)
 else
 ∃ba:UInt8,((0:Int)<=2/\d[Int.toNat 2]?=some ba)/\
 if 191< ((ba.toNat:Nat):Int)then(
 R (.bool false) m)
 else
 ∃(aw ag:Nat),3=(aw:Int)/\ag=d.size/\aw<=ag/\ag<=d.size/\
 (I7 (d.extract aw ag) m/\m7 (d.extract aw ag) m<m7 d H1))
 else
 if(zY (iand .u8 l 7))=4 then(
 if(d.size:Int)<4 then(
 R (.bool false) m)
 else
 ∃u:UInt8,((0:Int)<=1/\d[Int.toNat 1]?=some u)/\
 ∃af:Int,hat m (ad b)=some (.int .u8 af)/\
 if((u.toNat:Nat):Int)<af then(
 R (.bool false) m)
 else
 ∃y:Int,hat m ((ad b).add 1)=some (.int .u8 y)/\
 ∃am:UInt8,((0:Int)<=1/\d[Int.toNat 1]?=some am)/\
 if y< ((am.toNat:Nat):Int)then(
 R (.bool false) m)
 else
 ∃ae:UInt8,((0:Int)<=2/\d[Int.toNat 2]?=some ae)/\
 if((ae.toNat:Nat):Int)<128 then(
 R (.bool false) m)
 else
 ∃ah:UInt8,((0:Int)<=2/\d[Int.toNat 2]?=some ah)/\
 if 191< ((ah.toNat:Nat):Int)then(
 R (.bool false) m)
 else
 ∃ab:UInt8,((0:Int)<=3/\d[Int.toNat 3]?=some ab)/\
 if((ab.toNat:Nat):Int)<128 then(
 R (.bool false) m)
 else
 ∃ao:UInt8,((0:Int)<=3/\d[Int.toNat 3]?=some ao)/\
 if 191< ((ao.toNat:Nat):Int)then(
 R (.bool false) m)
 else
 ∃(av aj:Nat),4=(av:Int)/\aj=d.size/\av<=aj/\aj<=d.size/\
 (I7 (d.extract av aj) m/\m7 (d.extract av aj) m<m7 d H1))
 else
 R (.bool false) m)
 else
 R (.bool true) H1
namespace aP
theorem link{s:ByteArray}{H:zV}{R:zk}(h:pt s H R):C s H R:=by
 refine T_en K0 169 Tryz.func27 ?_
 intro w0 Q hQ
 unfold pt zY at h
 refine T_su [(0,.string s)]<| ar 0<| T_ed 1 [] []<| T_sz<| T_bz 0 ?_
 obtain⟨I7,m7,i1,i2⟩:=h
 refine bO (x:=K6) (σ:=ByteArray) (λs_=> [(0,.string s_)]) (λs_ H=>I7 s_ H) (λs_ H=>m7 s_ H) (s:ByteArray) (by kernel_rfl) i1 sk ?_
 rintro d H1 i3
 have h:=i2 d H1 i3
 refine T_su [(0,.string d)]<| T_sz<| ar 1<| T_ed 3 [] [(9,.bool (decide ((d.size:Int)>0)))] ?_
 by_cases c4:(d.size:Int)>0
 ·rw[if_pos c4]at h
  refine aF 9 (zX c4)<| T_kt<| T_bz 1<| ar 2<| T_nd 1 [9] [(10,.string d)] ?_
  obtain⟨c,q6,h⟩:=h
  refine T_v1 11 (dj 9 (.string d) (vi 0)) (.int .u8 ((c.toNat:Nat):Int)) (λw _=>aZ (P:=Tryz.prog) (t:=9) (s:=d) (k:=.i64) (i:=0) Tryz.underlying9 q6.1 q6.2 w) [10]<| T_ed 1 [11] [(3,.int .u8 ((c.toNat:Nat):Int))]<| T_sz<| ar 3<| T_ed 2 [] [(13,.bool (decide (((c.toNat:Nat):Int)<128)))] ?_
  by_cases c7:((c.toNat:Nat):Int)<128
  ·rw[if_pos c7]at h
   refine aF 13 (zX c7)<| ar 4<| T_n 1 [(14,.string d)] ?_
   obtain⟨lo,hi,q9,q10,q11,q12,h⟩:=h
   refine T_v1 15 (gS 9 (.string d) (some (vi 1)) none none) (.string (d.extract lo hi)) (λw _=>dy (P:=Tryz.prog) (t:=9) (s:=d) (some (vi 1)) none lo hi Tryz.underlying9 (.inr ⟨.i64,congrArg (λq=>some (Value.int .i64 q)) q9⟩) (.inl ⟨rfl,q10⟩) q11 q12 w) [14]<| T_ne 1 [(0,.string (d.extract lo hi))]<| T_sz<| T_sz ?_
   obtain⟨J,h,j15⟩:=h
   refine kB (σ:=Bool) (λs_=> [(0,.string (d.extract lo hi)),(24,.bool s_)]) (λs_ H=>J s_ H) ?_ ?_
   ·rintro bf H2 j16
    replace h:=j15 bf H2 j16
    refine T_su [(0,.string (d.extract lo hi)),(24,.bool bf)]<| aC ?_
    obtain⟨bh,h,j18⟩:=h
    refine kB (σ:=ByteArray) (λs_=> [(0,.string s_)]) (λs_ H=>bh s_ H) ?_ ?_
    ·rintro bi H3 j19
     replace h:=j18 bi H3 j19
     exact T_su [(0,.string bi)]<| aC<| zj 1<| aA<| aH<| aC<| aK (bi:ByteArray) sk h
    by_cases c20:bf=true
    ·rw[if_pos c20]at h
     have b21:bf=true:=c20
     refine dI [(0,.string (d.extract lo hi)),(24,.bool true)] (by simp only[b21,Bool.not_true,Bool.not_false]) ?_
     clear b21
     refine T_tz 24<| ar 6<| T_n 1 [(25,.string (d.extract lo hi))] ?_
     obtain⟨j,g,q22,q23,q24,q25,h⟩:=h
     refine T_v1 26 (gS 9 (.string (d.extract lo hi)) (some (vi 8)) none none) (.string ((d.extract lo hi).extract j g)) (λw _=>dy (P:=Tryz.prog) (t:=9) (s:=(d.extract lo hi)) (some (vi 8)) none j g Tryz.underlying9 (.inr ⟨.i64,congrArg (λq=>some (Value.int .i64 q)) q22⟩) (.inl ⟨rfl,q23⟩) q24 q25 w) [25]<| T_ne 1 [(0,.string ((d.extract lo hi).extract j g))]<| T_sz ?_
     obtain⟨bk,h,j28⟩:=h
     refine kB (σ:=Bool) (λs_=> [(0,.string ((d.extract lo hi).extract j g)),(39,.bool s_)]) (λs_ H=>bk s_ H) ?_ ?_
     ·rintro bg H4 j29
      replace h:=j28 bg H4 j29
      refine T_su [(0,.string ((d.extract lo hi).extract j g)),(39,.bool bg)]<| aC ?_
      by_cases c30:bg=true
      ·rw[if_pos c30]at h
       have b31:bg=true:=c30
       refine dI [(0,.string ((d.extract lo hi).extract j g)),(39,.bool true)] (by rw[b31]) ?_
       clear b31
       refine T_tz 39<| ar 8<| T_n 1 [(40,.string ((d.extract lo hi).extract j g))] ?_
       obtain⟨bb,a8,q32,q33,q34,q35,h⟩:=h
       refine T_v1 41 (gS 9 (.string ((d.extract lo hi).extract j g)) (some (vi 16)) none none) (.string (((d.extract lo hi).extract j g).extract bb a8)) (λw _=>dy (P:=Tryz.prog) (t:=9) (s:=((d.extract lo hi).extract j g)) (some (vi 16)) none bb a8 Tryz.underlying9 (.inr ⟨.i64,congrArg (λq=>some (Value.int .i64 q)) q32⟩) (.inl ⟨rfl,q33⟩) q34 q35 w) [40]<| T_ne 1 [(0,.string (((d.extract lo hi).extract j g).extract bb a8))]<| T_bz 2 ?_
       obtain⟨bl,m40,i37,i38⟩:=h
       refine bO (x:=K39) (σ:=ByteArray) (λs_=> [(0,.string s_)]) (λs_ H=>bl s_ H) (λs_ H=>m40 s_ H) ((((d.extract lo hi).extract j g).extract bb a8):ByteArray) (by kernel_rfl) i37 sk ?_
       rintro f H5 i39
       have h:=i38 f H5 i39
       refine T_su [(0,.string f)]<| T_sz<| T_sz ?_
       by_cases c40:(f.size:Int)>32
       ·rw[if_pos c40]at h
        obtain⟨au,ak,q42,q43,q44,q45,aq,al,q47,q48,q49,q50,ax,ap,q52,q53,q54,q55,h⟩:=h
        refine yY 9 (Code.ops K42) [] 21 (bv 21 0) (show aG _ _ _ from trivial)<| aD 0 42 (.string f) (bv 21 1) []<| aD 1 43 (vi (f.size:Int)) (bv 21 3) [42]<| aD 2 44 (.bool (decide ((f.size:Int)>32))) (bv 21 7) [43]<| aD 3 45 (.bool (decide ((f.size:Int)>32))) (bv 21 15) [44]<| G_bd 45 (zX c40)<| aD 4 46 (.string f) (bv 21 31) []<| aD 6 48 (.string f) (bv 21 95) []<| T_g1 7 49 (.string (f.extract au ak)) (bv 21 223) [48] (gS 9 (.string f) (some (vi 8)) none none) (λ_ w _ _ _=>dy (P:=Tryz.prog) (t:=9) (s:=f) (some (vi 8)) none au ak Tryz.underlying9 (.inr ⟨.i64,congrArg (λq=>some (Value.int .i64 q)) q42⟩) (.inl ⟨rfl,q43⟩) q44 q45 w)<| aD 10 52 (.string f) (bv 21 1247) []<| T_g1 11 53 (.string (f.extract aq al)) (bv 21 3295) [52] (gS 9 (.string f) (some (vi 16)) none none) (λ_ w _ _ _=>dy (P:=Tryz.prog) (t:=9) (s:=f) (some (vi 16)) none aq al Tryz.underlying9 (.inr ⟨.i64,congrArg (λq=>some (Value.int .i64 q)) q47⟩) (.inl ⟨rfl,q48⟩) q49 q50 w)<| aD 13 55 (.string f) (bv 21 11487) []<| T_g1 14 56 (.string (f.extract ax ap)) (bv 21 27871) [55] (gS 9 (.string f) (some (vi 24)) none none) (λ_ w _ _ _=>dy (P:=Tryz.prog) (t:=9) (s:=f) (some (vi 24)) none ax ap Tryz.underlying9 (.inr ⟨.i64,congrArg (λq=>some (Value.int .i64 q)) q52⟩) (.inl ⟨rfl,q53⟩) q54 q55 w)<| yq 5 (some 47) (bv 21 27903) 63 #[.string f] h ?_;clear h
        rintro v H6 ⟨x,rfl,h⟩
        refine⟨[(0,.string f),(45,.bool true),(47,vu x),(49,.string (f.extract au ak)),(53,.string (f.extract aq al)),(56,.string (f.extract ax ap))],pk,(show aG _ _ _ from trivial),?_⟩
        refine yq 8 (some 50) (bv 21 28159) 63 #[.string (f.extract au ak)] h ?_;clear h
        rintro bu H7 ⟨o,rfl,h⟩
        refine⟨[(0,.string f),(45,.bool true),(47,vu x),(50,vu o),(53,.string (f.extract aq al)),(56,.string (f.extract ax ap))],pk,(show aG _ _ _ from trivial),?_⟩
        refine T_g 9 (some 51) (vu (ior .u64 x o)) (bv 21 28671) [(0,.string f),(45,.bool true),(51,vu (ior .u64 x o)),(53,.string (f.extract aq al)),(56,.string (f.extract ax ap))] (pure (.value (vu (ior .u64 x o))):Sem Next) (λ_ _ _ _ _=>rfl)<| yq 12 (some 54) (bv 21 32767) 63 #[.string (f.extract aq al)] h ?_;clear h
        rintro bs H8 ⟨p,rfl,h⟩
        refine⟨[(0,.string f),(45,.bool true),(51,vu (ior .u64 x o)),(54,vu p),(56,.string (f.extract ax ap))],pk,(show aG _ _ _ from trivial),?_⟩
        refine yq 15 (some 57) (bv 21 65535) 63 #[.string (f.extract ax ap)] h ?_;clear h
        rintro bn H9 ⟨r,rfl,h⟩
        refine⟨[(0,.string f),(45,.bool true),(51,vu (ior .u64 x o)),(54,vu p),(57,vu r)],pk,(show aG _ _ _ from trivial),?_⟩
        refine T_g 16 (some 58) (vu (ior .u64 p r)) (bv 21 131071) [(0,.string f),(45,.bool true),(51,vu (ior .u64 x o)),(58,vu (ior .u64 p r))] (pure (.value (vu (ior .u64 p r))):Sem Next) (λ_ _ _ _ _=>rfl)<| T_g1 17 59 (vu (ior .u64 (ior .u64 x o) (ior .u64 p r))) (bv 21 262143) [51,58] (pure (.value (vu (ior .u64 (ior .u64 x o) (ior .u64 p r)))):Sem Next) (λ_ _ _ _ _=>rfl)<| T_g1 18 60 (vu (iand .u64 (ior .u64 (ior .u64 x o) (ior .u64 p r)) 9259542123273814144)) (bv 21 524287) [59] (pure (.value (vu (iand .u64 (ior .u64 (ior .u64 x o) (ior .u64 p r)) 9259542123273814144))):Sem Next) (λ_ _ _ _ _=>rfl)<| T_g1 19 61 (.bool ((iand .u64 (ior .u64 (ior .u64 x o) (ior .u64 p r)) 9259542123273814144)==0)) (bv 21 1048575) [60] (pure (.value (.bool ((iand .u64 (ior .u64 (ior .u64 x o) (ior .u64 p r)) 9259542123273814144)==0))):Sem Next) (λ_ _ _ _ _=>rfl)<| T_g1 20 62 (.bool ((iand .u64 (ior .u64 (ior .u64 x o) (ior .u64 p r)) 9259542123273814144)==0)) (bv 21 2097151) [45,61] (pure (.value (.bool ((iand .u64 (ior .u64 (ior .u64 x o) (ior .u64 p r)) 9259542123273814144)==0))):Sem Next) (λ_ _ _ _ _=>rfl)<| eR [(0,.string f),(62,.bool ((iand .u64 (ior .u64 (ior .u64 x o) (ior .u64 p r)) 9259542123273814144)==0))] sk<| yx<| aC ?_
        by_cases c57:(iand .u64 (ior .u64 (ior .u64 x o) (ior .u64 p r)) 9259542123273814144)=0
        ·rw[if_pos c57]at h
         refine aF 62 (zK c57)<| T_kt<| T_bz 3<| T_rz 10<| T_n 1 [(63,.string f)] ?_
         obtain⟨a7,a1,q59,q60,q61,q62,h⟩:=h
         exact T_v1 64 (gS 9 (.string f) (some (vi 32)) none none) (.string (f.extract a7 a1)) (λw _=>dy (P:=Tryz.prog) (t:=9) (s:=f) (some (vi 32)) none a7 a1 Tryz.underlying9 (.inr ⟨.i64,congrArg (λq=>some (Value.int .i64 q)) q59⟩) (.inl ⟨rfl,q60⟩) q61 q62 w) [63]<| T_n 1 [(0,.string (f.extract a7 a1))]<| zq<| aB<| aC<| aK ((f.extract a7 a1):ByteArray) sk h
        rw[if_neg c57]at h
        exact aE 62 (zJ c57)<| zj 2<| aA<| aA<| aH<| aC<| fW (f:ByteArray) sk h
       rw[if_neg c40]at h
       exact yY 9 (Code.ops K42) [] 21 (bv 21 0) (show aG _ _ _ from trivial)<| aD 0 42 (.string f) (bv 21 1) []<| aD 1 43 (vi (f.size:Int)) (bv 21 3) [42]<| aD 2 44 (.bool (decide ((f.size:Int)>32))) (bv 21 7) [43]<| aD 3 45 (.bool (decide ((f.size:Int)>32))) (bv 21 15) [44]<| G_bd 45 (zQ c40)<| fG 4 (some 46) (bv 21 31) [] [(46,undef)]<| fG 5 (some 47) (bv 21 63) [46] [(47,undef)]<| fG 6 (some 48) (bv 21 127) [] [(48,undef)]<| fG 7 (some 49) (bv 21 255) [48] [(49,undef)]<| fG 8 (some 50) (bv 21 511) [49] [(50,undef)]<| fG 9 (some 51) (bv 21 1023) [47,50] [(51,undef)]<| fG 10 (some 52) (bv 21 2047) [] [(52,undef)]<| fG 11 (some 53) (bv 21 4095) [52] [(53,undef)]<| fG 12 (some 54) (bv 21 8191) [53] [(54,undef)]<| fG 13 (some 55) (bv 21 16383) [] [(55,undef)]<| fG 14 (some 56) (bv 21 32767) [55] [(56,undef)]<| fG 15 (some 57) (bv 21 65535) [56] [(57,undef)]<| fG 16 (some 58) (bv 21 131071) [54,57] [(58,undef)]<| fG 17 (some 59) (bv 21 262143) [51,58] [(59,undef)]<| fG 18 (some 60) (bv 21 524287) [59] [(60,undef)]<| fG 19 (some 61) (bv 21 1048575) [60] [(61,undef)]<| aD 20 62 (.bool false) (bv 21 2097151) [45,61]<| eR [(0,.string f),(62,.bool false)] sk<| yx<| aC<| T_fz 62<| zj 2<| aA<| aA<| aH<| aC<| fW (f:ByteArray) sk h
      rw[if_neg c30]at h
      have b31:bg=false:=zZ c30
      refine dI [(0,.string ((d.extract lo hi).extract j g)),(39,.bool false)] (by rw[b31]) ?_
      clear b31
      exact T_fz 39<| T_kt<| fW (((d.extract lo hi).extract j g):ByteArray) sk h
     by_cases c64:(((d.extract lo hi).extract j g).size:Int)>16
     ·rw[if_pos c64]at h
      obtain⟨bc,a5,q66,q67,q68,q69,h⟩:=h
      refine yY 7 (Code.ops K32) [] 13 (bv 13 0) (show aG _ _ _ from trivial)<| T_gp 0 (some 27) (.string ((d.extract lo hi).extract j g)) (bv 13 1) [(0,.string ((d.extract lo hi).extract j g)),(27,.string ((d.extract lo hi).extract j g))]<| aD 1 28 (vi (((d.extract lo hi).extract j g).size:Int)) (bv 13 3) [27]<| aD 2 29 (.bool (decide ((((d.extract lo hi).extract j g).size:Int)>16))) (bv 13 7) [28]<| aD 3 30 (.bool (decide ((((d.extract lo hi).extract j g).size:Int)>16))) (bv 13 15) [29]<| G_bd 30 (zX c64)<| aD 4 31 (.string ((d.extract lo hi).extract j g)) (bv 13 31) []<| aD 6 33 (.string ((d.extract lo hi).extract j g)) (bv 13 95) []<| T_g1 7 34 (.string (((d.extract lo hi).extract j g).extract bc a5)) (bv 13 223) [33] (gS 9 (.string ((d.extract lo hi).extract j g)) (some (vi 8)) none none) (λ_ w _ _ _=>dy (P:=Tryz.prog) (t:=9) (s:=((d.extract lo hi).extract j g)) (some (vi 8)) none bc a5 Tryz.underlying9 (.inr ⟨.i64,congrArg (λq=>some (Value.int .i64 q)) q66⟩) (.inl ⟨rfl,q67⟩) q68 q69 w)<| yq 5 (some 32) (bv 13 255) 63 #[.string ((d.extract lo hi).extract j g)] h ?_;clear h
      rintro bt bq ⟨ai,rfl,h⟩
      refine⟨[(0,.string ((d.extract lo hi).extract j g)),(30,.bool true),(32,vu ai),(34,.string (((d.extract lo hi).extract j g).extract bc a5))],pk,(show aG _ _ _ from trivial),?_⟩
      refine yq 8 (some 35) (bv 13 511) 63 #[.string (((d.extract lo hi).extract j g).extract bc a5)] h ?_;clear h
      rintro bm bo ⟨an,rfl,h⟩
      refine⟨[(0,.string ((d.extract lo hi).extract j g)),(30,.bool true),(32,vu ai),(35,vu an)],pk,(show aG _ _ _ from trivial),?_⟩
      exact T_g 9 (some 36) (vu (ior .u64 ai an)) (bv 13 1023) [(0,.string ((d.extract lo hi).extract j g)),(30,.bool true),(36,vu (ior .u64 ai an))] (pure (.value (vu (ior .u64 ai an))):Sem Next) (λ_ _ _ _ _=>rfl)<| T_g1 10 37 (vu (iand .u64 (ior .u64 ai an) 9259542123273814144)) (bv 13 2047) [36] (pure (.value (vu (iand .u64 (ior .u64 ai an) 9259542123273814144))):Sem Next) (λ_ _ _ _ _=>rfl)<| T_g1 11 38 (.bool ((iand .u64 (ior .u64 ai an) 9259542123273814144)==0)) (bv 13 4095) [37] (pure (.value (.bool ((iand .u64 (ior .u64 ai an) 9259542123273814144)==0))):Sem Next) (λ_ _ _ _ _=>rfl)<| T_g1 12 39 (.bool ((iand .u64 (ior .u64 ai an) 9259542123273814144)==0)) (bv 13 8191) [30,38] (pure (.value (.bool ((iand .u64 (ior .u64 ai an) 9259542123273814144)==0))):Sem Next) (λ_ _ _ _ _=>rfl)<| eR [(0,.string ((d.extract lo hi).extract j g)),(39,.bool ((iand .u64 (ior .u64 ai an) 9259542123273814144)==0))] sk<| yx<| aC<| fW (((iand .u64 (ior .u64 ai an) 9259542123273814144)==0):Bool) sk h
     rw[if_neg c64]at h
     exact yY 7 (Code.ops K32) [] 13 (bv 13 0) (show aG _ _ _ from trivial)<| T_gp 0 (some 27) (.string ((d.extract lo hi).extract j g)) (bv 13 1) [(0,.string ((d.extract lo hi).extract j g)),(27,.string ((d.extract lo hi).extract j g))]<| aD 1 28 (vi (((d.extract lo hi).extract j g).size:Int)) (bv 13 3) [27]<| aD 2 29 (.bool (decide ((((d.extract lo hi).extract j g).size:Int)>16))) (bv 13 7) [28]<| aD 3 30 (.bool (decide ((((d.extract lo hi).extract j g).size:Int)>16))) (bv 13 15) [29]<| G_bd 30 (zQ c64)<| fG 4 (some 31) (bv 13 31) [] [(31,undef)]<| fG 5 (some 32) (bv 13 63) [31] [(32,undef)]<| fG 6 (some 33) (bv 13 127) [] [(33,undef)]<| fG 7 (some 34) (bv 13 255) [33] [(34,undef)]<| fG 8 (some 35) (bv 13 511) [34] [(35,undef)]<| fG 9 (some 36) (bv 13 1023) [32,35] [(36,undef)]<| fG 10 (some 37) (bv 13 2047) [36] [(37,undef)]<| fG 11 (some 38) (bv 13 4095) [37] [(38,undef)]<| aD 12 39 (.bool false) (bv 13 8191) [30,38]<| eR [(0,.string ((d.extract lo hi).extract j g)),(39,.bool false)] sk<| yx<| aC<| fW (false:Bool) sk h
    rw[if_neg c20]at h
    have b21:bf=false:=zZ c20
    refine dI [(0,.string (d.extract lo hi)),(24,.bool false)] (by simp only[b21,Bool.not_true,Bool.not_false]) ?_
    clear b21
    exact T_fz 24<| T_kt<| fW ((d.extract lo hi):ByteArray) sk h
   refine T_rz 5<| T_n 4 [(0,.string (d.extract lo hi)),(19,.bool (decide (((d.extract lo hi).size:Int)>8)))] ?_
   by_cases c71:((d.extract lo hi).size:Int)>8
   ·rw[if_pos c71]at h
    have b72:(decide (((d.extract lo hi).size:Int)>8))=true:=zX c71
    refine bJ [(0,.string (d.extract lo hi)),(19,.bool true)] (by rw[b72]) ?_
    clear b72
    refine T_nd 1 [] [(20,.string (d.extract lo hi))]<| T_c (some 21) h ?_;clear h
    rintro br bp ⟨bj,rfl,h⟩
    exact T_pd [20] [(21,vu bj)]<| T_ed 3 [19,21] [(24,.bool ((iand .u64 bj 9259542123273814144)==0))]<| fW (((iand .u64 bj 9259542123273814144)==0):Bool) sk h
   rw[if_neg c71]at h
   have b72:(decide (((d.extract lo hi).size:Int)>8))=false:=zQ c71
   refine bJ [(0,.string (d.extract lo hi)),(19,.bool false)] (by rw[b72]) ?_
   clear b72
   exact T_ed 5 [19] [(24,.bool false)]<| fW (false:Bool) sk h
  rw[if_neg c7]at h
  refine aE 13 (zQ c7)<| T_kt<| ar 11<| T_nd 1 [3,13] [(65,.int .u8 ((c.toNat:Nat):Int))] ?_
  obtain⟨q73,h⟩:=h
  refine T_v1 66 (aR 126 (vp (pa 0)) (.int .u8 ((c.toNat:Nat):Int))) (vp (some ((ad 0).add (Int.toNat ((c.toNat:Nat):Int)*1)))) (λw _=>aN (P:=Tryz.prog) (t:=126) (elem:=5) (sz:=1) (n:=256) (a:=(ad 0)) (k:=.u8) (i:=((c.toNat:Nat):Int)) Tryz.underlying126 (λ_=>by kernel_rfl) q73.1 q73.2 w) [65] ?_
  obtain⟨l,q74,h⟩:=h
  refine T_l1 67 5 q74 [66]<| T_ed 1 [67] [(4,.int .u8 l)]<| ar 12<| T_ed 4 [] [(5,vi (zY (iand .u8 l 7)))]<| ar 13<| T_nd 2 [4] [(72,.int .u8 (ishr .u8 l 4))] ?_
  obtain⟨q75,h⟩:=h
  refine T_v1 73 (aR 129 (vp (pa 1)) (.int .u8 (ishr .u8 l 4))) (vp (some ((ad 1).add (Int.toNat (ishr .u8 l 4)*2)))) (λw _=>aN (P:=Tryz.prog) (t:=129) (elem:=128) (sz:=2) (n:=16) (a:=(ad 1)) (k:=.u8) (i:=(ishr .u8 l 4)) Tryz.underlying129 (λ_=>by kernel_rfl) q75.1 q75.2 w) [72] ?_
  obtain⟨bd,be,q76,h⟩:=h
  refine T_lr 74 128 q76 [73]<| T_nw (some 6) (λb=>vp (pa b)) (.cells #[.int .u8 0,.int .u8 0] 128) ?_
  intro b H13 e77 e78
  replace h:=h b H13 e77 e78
  refine T_pd [] [(6,vp (pa b))] ?_
  obtain⟨q80,h⟩:=h
  refine fH 128 [.int .u8 bd,.int .u8 be] q80 ?_
  intro m e79
  replace h:=h m e79
  refine T_pd [74] []<| T_e<| ar 14<| T_ed 1 [5] [(75,vi (zY (iand .u8 l 7)))]<| T_bz 4<| ar 16<| T_ed 2 [] [(76,.bool ((zY (iand .u8 l 7))==2))] ?_
  by_cases c81:(zY (iand .u8 l 7))=2
  ·rw[if_pos c81]at h
   refine aF 76 (zK c81)<| T_sz<| T_sz<| jm 17<| T_q1 78 (.string d) [75,76]<| T_q1 79 (vi (d.size:Int)) [78]<| T_q1 80 (.bool (decide ((d.size:Int)<2))) [79]<| T_q1 81 (.bool (decide ((d.size:Int)<2))) [80] ?_
   by_cases c83:(d.size:Int)<2
   ·rw[if_pos c83]at h
    refine Q_bd 81 (zX c83)<| T_q1 82 (undef) []<| T_q1 83 (undef) [82]<| T_q1 84 (undef) []<| T_q1 85 (undef) [84]<| T_q1 86 (undef) [83,85]<| T_q1 87 (.bool true) [81,86]<| T_q1 88 (.bool true) [87]<| T_q1 89 (undef) [6] ?_
    exact T_q1 90 (undef) [89]<| T_q1 91 (undef) []<| T_q1 92 (undef) [91]<| T_q1 93 (undef) [90,92]<| T_q1 94 (.bool true) [88,93]<| eV [(0,.string d),(94,.bool true)] sk<| T_qe<| T_tz 94<| ar 18<| T_nr 1 [2] [.bool false] hQ h
   rw[if_neg c83]at h
   refine Q_bd 81 (zQ c83)<| T_q1 82 (.string d) [] ?_
   obtain⟨az,q85,h⟩:=h
   refine Q_op (some 83) (dj 9 (.string d) (vi 1)) (.int .u8 ((az.toNat:Nat):Int)) (λ_=>by kernel_rfl) (λw _=>aZ (P:=Tryz.prog) (t:=9) (s:=d) (k:=.i64) (i:=1) Tryz.underlying9 q85.1 q85.2 w) [(0,.string d),(6,vp (pa b)),(81,.bool false),(83,.int .u8 ((az.toNat:Nat):Int))] pk ?_
   refine T_q (some 84) (vp (pa b)) [(0,.string d),(6,vp (pa b)),(81,.bool false),(83,.int .u8 ((az.toNat:Nat):Int)),(84,vp (pa b))] ?_
   obtain⟨a4,q86,h⟩:=h
   refine iQ (some 85) 5 q86 [84] [(85,.int .u8 a4)]<| T_q1 86 (.bool (decide (((az.toNat:Nat):Int)<a4))) [83,85]<| T_q1 87 (.bool (decide (((az.toNat:Nat):Int)<a4))) [81,86]<| T_q1 88 (.bool (decide (((az.toNat:Nat):Int)<a4))) [87] ?_
   by_cases c87:((az.toNat:Nat):Int)<a4
   ·rw[if_pos c87]at h
    refine Q_bd 88 (zX c87)<| T_q1 89 (undef) [6]<| T_q1 90 (undef) [89]<| T_q1 91 (undef) []<| T_q1 92 (undef) [91]<| T_q1 93 (undef) [90,92]<| T_q1 94 (.bool true) [88,93] ?_
    refine eV [(0,.string d),(94,.bool true)] sk ?_
    exact T_qe<| T_tz 94<| ar 18<| T_nr 1 [2] [.bool false] hQ h
   rw[if_neg c87]at h
   refine Q_bd 88 (zQ c87)<| T_q1 89 (vp (some ((ad b).add 1))) [6] ?_
   obtain⟨aa,q89,h⟩:=h
   refine iQ (some 90) 5 q89 [89] [(90,.int .u8 aa)]<| T_q1 91 (.string d) [] ?_
   obtain⟨a9,q90,h⟩:=h
   refine Q_op (some 92) (dj 9 (.string d) (vi 1)) (.int .u8 ((a9.toNat:Nat):Int)) (λ_=>by kernel_rfl) (λw _=>aZ (P:=Tryz.prog) (t:=9) (s:=d) (k:=.i64) (i:=1) Tryz.underlying9 q90.1 q90.2 w) [(0,.string d),(88,.bool false),(90,.int .u8 aa),(92,.int .u8 ((a9.toNat:Nat):Int))] pk ?_
   refine T_q (some 93) (.bool (decide (aa< ((a9.toNat:Nat):Int)))) [(0,.string d),(88,.bool false),(93,.bool (decide (aa< ((a9.toNat:Nat):Int))))]<| T_q1 94 (.bool (decide (aa< ((a9.toNat:Nat):Int)))) [88,93]<| eV [(0,.string d),(94,.bool (decide (aa< ((a9.toNat:Nat):Int))))] sk<| T_qe ?_
   by_cases c91:aa< ((a9.toNat:Nat):Int)
   ·rw[if_pos c91]at h
    exact aF 94 (zX c91)<| ar 18<| T_nr 1 [2] [.bool false] hQ h
   rw[if_neg c91]at h
   refine aE 94 (zQ c91)<| T_kt<| T_rz 19<| T_n 1 [(95,.string d)] ?_
   obtain⟨a6,a0,q93,q94,q95,q96,h⟩:=h
   exact T_v1 96 (gS 9 (.string d) (some (vi 2)) none none) (.string (d.extract a6 a0)) (λw _=>dy (P:=Tryz.prog) (t:=9) (s:=d) (some (vi 2)) none a6 a0 Tryz.underlying9 (.inr ⟨.i64,congrArg (λq=>some (Value.int .i64 q)) q93⟩) (.inl ⟨rfl,q94⟩) q95 q96 w) [95]<| T_n 1 [(0,.string (d.extract a6 a0))]<| zq<| aB<| aB<| aC<| aK ((d.extract a6 a0):ByteArray) sk h
  rw[if_neg c81]at h
  refine aE 76 (zJ c81)<| ar 20<| T_ed 2 [76] [(97,.bool ((zY (iand .u8 l 7))==3))] ?_
  by_cases c98:(zY (iand .u8 l 7))=3
  ·rw[if_pos c98]at h
   refine aF 97 (zK c98)<| T_sz<| T_sz<| jm 21<| T_q1 99 (.string d) [75,97]<| T_q1 100 (vi (d.size:Int)) [99]<| T_q1 101 (.bool (decide ((d.size:Int)<3))) [100]<| T_q1 102 (.bool (decide ((d.size:Int)<3))) [101] ?_
   by_cases c100:(d.size:Int)<3
   ·rw[if_pos c100]at h
    refine Q_bd 102 (zX c100)<| T_q1 103 (undef) []<| T_q1 104 (undef) [103]<| T_q1 105 (undef) []<| T_q1 106 (undef) [105]<| T_q1 107 (undef) [104,106]<| T_q1 108 (.bool true) [102,107]<| T_q1 109 (.bool true) [108]<| T_q1 110 (undef) [6] ?_
    exact T_q1 111 (undef) [110]<| T_q1 112 (undef) []<| T_q1 113 (undef) [112]<| T_q1 114 (undef) [111,113]<| T_q1 115 (.bool true) [109,114]<| T_q1 116 (.bool true) [115]<| T_q1 117 (undef) []<| T_q1 118 (undef) [117]<| T_q1 119 (undef) [118]<| T_q1 120 (.bool true) [116,119]<| T_q1 121 (.bool true) [120]<| T_q1 122 (undef) []<| T_q1 123 (undef) [122]<| T_q1 124 (undef) [123]<| T_q1 125 (.bool true) [121,124]<| eV [(0,.string d),(125,.bool true)] sk<| T_qe<| T_tz 125<| ar 22<| T_nr 1 [2] [.bool false] hQ h
   rw[if_neg c100]at h
   refine Q_bd 102 (zQ c100)<| T_q1 103 (.string d) [] ?_
   obtain⟨ay,q102,h⟩:=h
   refine Q_op (some 104) (dj 9 (.string d) (vi 1)) (.int .u8 ((ay.toNat:Nat):Int)) (λ_=>by kernel_rfl) (λw _=>aZ (P:=Tryz.prog) (t:=9) (s:=d) (k:=.i64) (i:=1) Tryz.underlying9 q102.1 q102.2 w) [(0,.string d),(6,vp (pa b)),(102,.bool false),(104,.int .u8 ((ay.toNat:Nat):Int))] pk ?_
   refine T_q (some 105) (vp (pa b)) [(0,.string d),(6,vp (pa b)),(102,.bool false),(104,.int .u8 ((ay.toNat:Nat):Int)),(105,vp (pa b))] ?_
   obtain⟨ac,q103,h⟩:=h
   refine iQ (some 106) 5 q103 [105] [(106,.int .u8 ac)]<| T_q1 107 (.bool (decide (((ay.toNat:Nat):Int)<ac))) [104,106]<| T_q1 108 (.bool (decide (((ay.toNat:Nat):Int)<ac))) [102,107]<| T_q1 109 (.bool (decide (((ay.toNat:Nat):Int)<ac))) [108] ?_
   by_cases c104:((ay.toNat:Nat):Int)<ac
   ·rw[if_pos c104]at h
    refine Q_bd 109 (zX c104)<| T_q1 110 (undef) [6]<| T_q1 111 (undef) [110]<| T_q1 112 (undef) []<| T_q1 113 (undef) [112]<| T_q1 114 (undef) [111,113]<| T_q1 115 (.bool true) [109,114]<| T_q1 116 (.bool true) [115]<| T_q1 117 (undef) [] ?_
    exact T_q1 118 (undef) [117]<| T_q1 119 (undef) [118]<| T_q1 120 (.bool true) [116,119]<| T_q1 121 (.bool true) [120]<| T_q1 122 (undef) []<| T_q1 123 (undef) [122]<| T_q1 124 (undef) [123]<| T_q1 125 (.bool true) [121,124]<| eV [(0,.string d),(125,.bool true)] sk<| T_qe<| T_tz 125<| ar 22<| T_nr 1 [2] [.bool false] hQ h
   rw[if_neg c104]at h
   refine Q_bd 109 (zQ c104)<| T_q1 110 (vp (some ((ad b).add 1))) [6] ?_
   obtain⟨z,q106,h⟩:=h
   refine iQ (some 111) 5 q106 [110] [(111,.int .u8 z)]<| T_q1 112 (.string d) [] ?_
   obtain⟨a2,q107,h⟩:=h
   refine Q_op (some 113) (dj 9 (.string d) (vi 1)) (.int .u8 ((a2.toNat:Nat):Int)) (λ_=>by kernel_rfl) (λw _=>aZ (P:=Tryz.prog) (t:=9) (s:=d) (k:=.i64) (i:=1) Tryz.underlying9 q107.1 q107.2 w) [(0,.string d),(109,.bool false),(111,.int .u8 z),(113,.int .u8 ((a2.toNat:Nat):Int))] pk ?_
   refine T_q (some 114) (.bool (decide (z< ((a2.toNat:Nat):Int)))) [(0,.string d),(109,.bool false),(114,.bool (decide (z< ((a2.toNat:Nat):Int))))]<| T_q1 115 (.bool (decide (z< ((a2.toNat:Nat):Int)))) [109,114]<| T_q1 116 (.bool (decide (z< ((a2.toNat:Nat):Int)))) [115] ?_
   by_cases c108:z< ((a2.toNat:Nat):Int)
   ·rw[if_pos c108]at h
    refine Q_bd 116 (zX c108)<| T_q1 117 (undef) []<| T_q1 118 (undef) [117]<| T_q1 119 (undef) [118]<| T_q1 120 (.bool true) [116,119]<| T_q1 121 (.bool true) [120]<| T_q1 122 (undef) []<| T_q1 123 (undef) [122]<| T_q1 124 (undef) [123] ?_
    exact T_q1 125 (.bool true) [121,124]<| eV [(0,.string d),(125,.bool true)] sk<| T_qe<| T_tz 125<| ar 22<| T_nr 1 [2] [.bool false] hQ h
   rw[if_neg c108]at h
   refine Q_bd 116 (zQ c108)<| T_q1 117 (.string d) [] ?_
   obtain⟨a3,q110,h⟩:=h
   refine Q_op (some 118) (dj 9 (.string d) (vi 2)) (.int .u8 ((a3.toNat:Nat):Int)) (λ_=>by kernel_rfl) (λw _=>aZ (P:=Tryz.prog) (t:=9) (s:=d) (k:=.i64) (i:=2) Tryz.underlying9 q110.1 q110.2 w) [(0,.string d),(116,.bool false),(118,.int .u8 ((a3.toNat:Nat):Int))] pk ?_
   refine T_q (some 119) (.bool (decide (((a3.toNat:Nat):Int)<128))) [(0,.string d),(116,.bool false),(119,.bool (decide (((a3.toNat:Nat):Int)<128)))]<| T_q1 120 (.bool (decide (((a3.toNat:Nat):Int)<128))) [116,119]<| T_q1 121 (.bool (decide (((a3.toNat:Nat):Int)<128))) [120] ?_
   by_cases c111:((a3.toNat:Nat):Int)<128
   ·rw[if_pos c111]at h
    refine Q_bd 121 (zX c111)<| T_q1 122 (undef) []<| T_q1 123 (undef) [122]<| T_q1 124 (undef) [123]<| T_q1 125 (.bool true) [121,124] ?_
    refine eV [(0,.string d),(125,.bool true)] sk ?_
    exact T_qe<| T_tz 125<| ar 22<| T_nr 1 [2] [.bool false] hQ h
   rw[if_neg c111]at h
   refine Q_bd 121 (zQ c111)<| T_q1 122 (.string d) [] ?_
   obtain⟨ba,q113,h⟩:=h
   refine Q_op (some 123) (dj 9 (.string d) (vi 2)) (.int .u8 ((ba.toNat:Nat):Int)) (λ_=>by kernel_rfl) (λw _=>aZ (P:=Tryz.prog) (t:=9) (s:=d) (k:=.i64) (i:=2) Tryz.underlying9 q113.1 q113.2 w) [(0,.string d),(121,.bool false),(123,.int .u8 ((ba.toNat:Nat):Int))] pk ?_
   refine T_q (some 124) (.bool (decide (191< ((ba.toNat:Nat):Int)))) [(0,.string d),(121,.bool false),(124,.bool (decide (191< ((ba.toNat:Nat):Int))))]<| T_q1 125 (.bool (decide (191< ((ba.toNat:Nat):Int)))) [121,124]<| eV [(0,.string d),(125,.bool (decide (191< ((ba.toNat:Nat):Int))))] sk<| T_qe ?_
   by_cases c114:191< ((ba.toNat:Nat):Int)
   ·rw[if_pos c114]at h
    exact aF 125 (zX c114)<| ar 22<| T_nr 1 [2] [.bool false] hQ h
   rw[if_neg c114]at h
   refine aE 125 (zQ c114)<| T_kt<| T_rz 23<| T_n 1 [(126,.string d)] ?_
   obtain⟨aw,ag,q116,q117,q118,q119,h⟩:=h
   exact T_v1 127 (gS 9 (.string d) (some (vi 3)) none none) (.string (d.extract aw ag)) (λw _=>dy (P:=Tryz.prog) (t:=9) (s:=d) (some (vi 3)) none aw ag Tryz.underlying9 (.inr ⟨.i64,congrArg (λq=>some (Value.int .i64 q)) q116⟩) (.inl ⟨rfl,q117⟩) q118 q119 w) [126]<| T_n 1 [(0,.string (d.extract aw ag))]<| zq<| aB<| aB<| aC<| aK ((d.extract aw ag):ByteArray) sk h
  rw[if_neg c98]at h
  refine aE 97 (zJ c98)<| ar 24<| T_ed 2 [75,97] [(128,.bool ((zY (iand .u8 l 7))==4))] ?_
  by_cases c121:(zY (iand .u8 l 7))=4
  ·rw[if_pos c121]at h
   refine aF 128 (zK c121)<| T_sz<| T_sz<| jm 25<| T_q1 130 (.string d) [128]<| T_q1 131 (vi (d.size:Int)) [130]<| T_q1 132 (.bool (decide ((d.size:Int)<4))) [131]<| T_q1 133 (.bool (decide ((d.size:Int)<4))) [132] ?_
   by_cases c123:(d.size:Int)<4
   ·rw[if_pos c123]at h
    refine Q_bd 133 (zX c123)<| T_q1 134 (undef) []<| T_q1 135 (undef) [134]<| T_q1 136 (undef) []<| T_q1 137 (undef) [136]<| T_q1 138 (undef) [135,137]<| T_q1 139 (.bool true) [133,138]<| T_q1 140 (.bool true) [139]<| T_q1 141 (undef) [6] ?_
    exact T_q1 142 (undef) [141]<| T_q1 143 (undef) []<| T_q1 144 (undef) [143]<| T_q1 145 (undef) [142,144]<| T_q1 146 (.bool true) [140,145]<| T_q1 147 (.bool true) [146]<| T_q1 148 (undef) []<| T_q1 149 (undef) [148]<| T_q1 150 (undef) [149]<| T_q1 151 (.bool true) [147,150]<| T_q1 152 (.bool true) [151]<| T_q1 153 (undef) []<| T_q1 154 (undef) [153]<| T_q1 155 (undef) [154]<| T_q1 156 (.bool true) [152,155]<| T_q1 157 (.bool true) [156]<| T_q1 158 (undef) []<| T_q1 159 (undef) [158]<| T_q1 160 (undef) [159]<| T_q1 161 (.bool true) [157,160]<| T_q1 162 (.bool true) [161]<| T_q1 163 (undef) []<| T_q1 164 (undef) [163]<| T_q1 165 (undef) [164]<| T_q1 166 (.bool true) [162,165]<| eV [(0,.string d),(166,.bool true)] sk<| T_qe<| T_tz 166<| ar 26<| T_nr 1 [2] [.bool false] hQ h
   rw[if_neg c123]at h
   refine Q_bd 133 (zQ c123)<| T_q1 134 (.string d) [] ?_
   obtain⟨u,q125,h⟩:=h
   refine Q_op (some 135) (dj 9 (.string d) (vi 1)) (.int .u8 ((u.toNat:Nat):Int)) (λ_=>by kernel_rfl) (λw _=>aZ (P:=Tryz.prog) (t:=9) (s:=d) (k:=.i64) (i:=1) Tryz.underlying9 q125.1 q125.2 w) [(0,.string d),(6,vp (pa b)),(133,.bool false),(135,.int .u8 ((u.toNat:Nat):Int))] pk ?_
   refine T_q (some 136) (vp (pa b)) [(0,.string d),(6,vp (pa b)),(133,.bool false),(135,.int .u8 ((u.toNat:Nat):Int)),(136,vp (pa b))] ?_
   obtain⟨af,q126,h⟩:=h
   refine iQ (some 137) 5 q126 [136] [(137,.int .u8 af)]<| T_q1 138 (.bool (decide (((u.toNat:Nat):Int)<af))) [135,137]<| T_q1 139 (.bool (decide (((u.toNat:Nat):Int)<af))) [133,138]<| T_q1 140 (.bool (decide (((u.toNat:Nat):Int)<af))) [139] ?_
   by_cases c127:((u.toNat:Nat):Int)<af
   ·rw[if_pos c127]at h
    refine Q_bd 140 (zX c127)<| T_q1 141 (undef) [6]<| T_q1 142 (undef) [141]<| T_q1 143 (undef) []<| T_q1 144 (undef) [143]<| T_q1 145 (undef) [142,144]<| T_q1 146 (.bool true) [140,145]<| T_q1 147 (.bool true) [146]<| T_q1 148 (undef) [] ?_
    exact T_q1 149 (undef) [148]<| T_q1 150 (undef) [149]<| T_q1 151 (.bool true) [147,150]<| T_q1 152 (.bool true) [151]<| T_q1 153 (undef) []<| T_q1 154 (undef) [153]<| T_q1 155 (undef) [154]<| T_q1 156 (.bool true) [152,155]<| T_q1 157 (.bool true) [156]<| T_q1 158 (undef) []<| T_q1 159 (undef) [158]<| T_q1 160 (undef) [159]<| T_q1 161 (.bool true) [157,160]<| T_q1 162 (.bool true) [161]<| T_q1 163 (undef) []<| T_q1 164 (undef) [163]<| T_q1 165 (undef) [164]<| T_q1 166 (.bool true) [162,165]<| eV [(0,.string d),(166,.bool true)] sk<| T_qe<| T_tz 166<| ar 26<| T_nr 1 [2] [.bool false] hQ h
   rw[if_neg c127]at h
   refine Q_bd 140 (zQ c127)<| T_q1 141 (vp (some ((ad b).add 1))) [6] ?_
   obtain⟨y,q129,h⟩:=h
   refine iQ (some 142) 5 q129 [141] [(142,.int .u8 y)]<| T_q1 143 (.string d) [] ?_
   obtain⟨am,q130,h⟩:=h
   refine Q_op (some 144) (dj 9 (.string d) (vi 1)) (.int .u8 ((am.toNat:Nat):Int)) (λ_=>by kernel_rfl) (λw _=>aZ (P:=Tryz.prog) (t:=9) (s:=d) (k:=.i64) (i:=1) Tryz.underlying9 q130.1 q130.2 w) [(0,.string d),(140,.bool false),(142,.int .u8 y),(144,.int .u8 ((am.toNat:Nat):Int))] pk ?_
   refine T_q (some 145) (.bool (decide (y< ((am.toNat:Nat):Int)))) [(0,.string d),(140,.bool false),(145,.bool (decide (y< ((am.toNat:Nat):Int))))]<| T_q1 146 (.bool (decide (y< ((am.toNat:Nat):Int)))) [140,145]<| T_q1 147 (.bool (decide (y< ((am.toNat:Nat):Int)))) [146] ?_
   by_cases c131:y< ((am.toNat:Nat):Int)
   ·rw[if_pos c131]at h
    refine Q_bd 147 (zX c131)<| T_q1 148 (undef) []<| T_q1 149 (undef) [148]<| T_q1 150 (undef) [149]<| T_q1 151 (.bool true) [147,150]<| T_q1 152 (.bool true) [151]<| T_q1 153 (undef) []<| T_q1 154 (undef) [153]<| T_q1 155 (undef) [154] ?_
    exact T_q1 156 (.bool true) [152,155]<| T_q1 157 (.bool true) [156]<| T_q1 158 (undef) []<| T_q1 159 (undef) [158]<| T_q1 160 (undef) [159]<| T_q1 161 (.bool true) [157,160]<| T_q1 162 (.bool true) [161]<| T_q1 163 (undef) []<| T_q1 164 (undef) [163]<| T_q1 165 (undef) [164]<| T_q1 166 (.bool true) [162,165]<| eV [(0,.string d),(166,.bool true)] sk<| T_qe<| T_tz 166<| ar 26<| T_nr 1 [2] [.bool false] hQ h
   rw[if_neg c131]at h
   refine Q_bd 147 (zQ c131)<| T_q1 148 (.string d) [] ?_
   obtain⟨ae,q133,h⟩:=h
   refine Q_op (some 149) (dj 9 (.string d) (vi 2)) (.int .u8 ((ae.toNat:Nat):Int)) (λ_=>by kernel_rfl) (λw _=>aZ (P:=Tryz.prog) (t:=9) (s:=d) (k:=.i64) (i:=2) Tryz.underlying9 q133.1 q133.2 w) [(0,.string d),(147,.bool false),(149,.int .u8 ((ae.toNat:Nat):Int))] pk ?_
   refine T_q (some 150) (.bool (decide (((ae.toNat:Nat):Int)<128))) [(0,.string d),(147,.bool false),(150,.bool (decide (((ae.toNat:Nat):Int)<128)))]<| T_q1 151 (.bool (decide (((ae.toNat:Nat):Int)<128))) [147,150]<| T_q1 152 (.bool (decide (((ae.toNat:Nat):Int)<128))) [151] ?_
   by_cases c134:((ae.toNat:Nat):Int)<128
   ·rw[if_pos c134]at h
    refine Q_bd 152 (zX c134)<| T_q1 153 (undef) []<| T_q1 154 (undef) [153]<| T_q1 155 (undef) [154]<| T_q1 156 (.bool true) [152,155]<| T_q1 157 (.bool true) [156]<| T_q1 158 (undef) []<| T_q1 159 (undef) [158]<| T_q1 160 (undef) [159] ?_
    exact T_q1 161 (.bool true) [157,160]<| T_q1 162 (.bool true) [161]<| T_q1 163 (undef) []<| T_q1 164 (undef) [163]<| T_q1 165 (undef) [164]<| T_q1 166 (.bool true) [162,165]<| eV [(0,.string d),(166,.bool true)] sk<| T_qe<| T_tz 166<| ar 26<| T_nr 1 [2] [.bool false] hQ h
   rw[if_neg c134]at h
   refine Q_bd 152 (zQ c134)<| T_q1 153 (.string d) [] ?_
   obtain⟨ah,q136,h⟩:=h
   refine Q_op (some 154) (dj 9 (.string d) (vi 2)) (.int .u8 ((ah.toNat:Nat):Int)) (λ_=>by kernel_rfl) (λw _=>aZ (P:=Tryz.prog) (t:=9) (s:=d) (k:=.i64) (i:=2) Tryz.underlying9 q136.1 q136.2 w) [(0,.string d),(152,.bool false),(154,.int .u8 ((ah.toNat:Nat):Int))] pk ?_
   refine T_q (some 155) (.bool (decide (191< ((ah.toNat:Nat):Int)))) [(0,.string d),(152,.bool false),(155,.bool (decide (191< ((ah.toNat:Nat):Int))))]<| T_q1 156 (.bool (decide (191< ((ah.toNat:Nat):Int)))) [152,155]<| T_q1 157 (.bool (decide (191< ((ah.toNat:Nat):Int)))) [156] ?_
   by_cases c137:191< ((ah.toNat:Nat):Int)
   ·rw[if_pos c137]at h
    refine Q_bd 157 (zX c137)<| T_q1 158 (undef) []<| T_q1 159 (undef) [158]<| T_q1 160 (undef) [159]<| T_q1 161 (.bool true) [157,160]<| T_q1 162 (.bool true) [161]<| T_q1 163 (undef) []<| T_q1 164 (undef) [163]<| T_q1 165 (undef) [164] ?_
    exact T_q1 166 (.bool true) [162,165]<| eV [(0,.string d),(166,.bool true)] sk<| T_qe<| T_tz 166<| ar 26<| T_nr 1 [2] [.bool false] hQ h
   rw[if_neg c137]at h
   refine Q_bd 157 (zQ c137)<| T_q1 158 (.string d) [] ?_
   obtain⟨ab,q139,h⟩:=h
   refine Q_op (some 159) (dj 9 (.string d) (vi 3)) (.int .u8 ((ab.toNat:Nat):Int)) (λ_=>by kernel_rfl) (λw _=>aZ (P:=Tryz.prog) (t:=9) (s:=d) (k:=.i64) (i:=3) Tryz.underlying9 q139.1 q139.2 w) [(0,.string d),(157,.bool false),(159,.int .u8 ((ab.toNat:Nat):Int))] pk ?_
   refine T_q (some 160) (.bool (decide (((ab.toNat:Nat):Int)<128))) [(0,.string d),(157,.bool false),(160,.bool (decide (((ab.toNat:Nat):Int)<128)))]<| T_q1 161 (.bool (decide (((ab.toNat:Nat):Int)<128))) [157,160]<| T_q1 162 (.bool (decide (((ab.toNat:Nat):Int)<128))) [161] ?_
   by_cases c140:((ab.toNat:Nat):Int)<128
   ·rw[if_pos c140]at h
    refine Q_bd 162 (zX c140)<| T_q1 163 (undef) []<| T_q1 164 (undef) [163]<| T_q1 165 (undef) [164]<| T_q1 166 (.bool true) [162,165] ?_
    refine eV [(0,.string d),(166,.bool true)] sk ?_
    exact T_qe<| T_tz 166<| ar 26<| T_nr 1 [2] [.bool false] hQ h
   rw[if_neg c140]at h
   refine Q_bd 162 (zQ c140)<| T_q1 163 (.string d) [] ?_
   obtain⟨ao,q142,h⟩:=h
   refine Q_op (some 164) (dj 9 (.string d) (vi 3)) (.int .u8 ((ao.toNat:Nat):Int)) (λ_=>by kernel_rfl) (λw _=>aZ (P:=Tryz.prog) (t:=9) (s:=d) (k:=.i64) (i:=3) Tryz.underlying9 q142.1 q142.2 w) [(0,.string d),(162,.bool false),(164,.int .u8 ((ao.toNat:Nat):Int))] pk ?_
   refine T_q (some 165) (.bool (decide (191< ((ao.toNat:Nat):Int)))) [(0,.string d),(162,.bool false),(165,.bool (decide (191< ((ao.toNat:Nat):Int))))]<| T_q1 166 (.bool (decide (191< ((ao.toNat:Nat):Int)))) [162,165]<| eV [(0,.string d),(166,.bool (decide (191< ((ao.toNat:Nat):Int))))] sk<| T_qe ?_
   by_cases c143:191< ((ao.toNat:Nat):Int)
   ·rw[if_pos c143]at h
    exact aF 166 (zX c143)<| ar 26<| T_nr 1 [2] [.bool false] hQ h
   rw[if_neg c143]at h
   refine aE 166 (zQ c143)<| T_kt<| T_rz 27<| T_n 1 [(167,.string d)] ?_
   obtain⟨av,aj,q145,q146,q147,q148,h⟩:=h
   exact T_v1 168 (gS 9 (.string d) (some (vi 4)) none none) (.string (d.extract av aj)) (λw _=>dy (P:=Tryz.prog) (t:=9) (s:=d) (some (vi 4)) none av aj Tryz.underlying9 (.inr ⟨.i64,congrArg (λq=>some (Value.int .i64 q)) q145⟩) (.inl ⟨rfl,q146⟩) q147 q148 w) [167]<| T_n 1 [(0,.string (d.extract av aj))]<| zq<| aB<| aB<| aC<| aK ((d.extract av aj):ByteArray) sk h
  rw[if_neg c121]at h
  exact aE 128 (zJ c121)<| ar 15<| T_nr 1 [2] [.bool false] hQ h
 rw[if_neg c4]at h
 exact aE 9 (zQ c4)<| zj 0<| aA<| aA<| aH<| aC<| ar 28<| T_nr 1 [2] [.bool true] hQ h
end aP

/-! unicode/utf8.RuneCountInString -/
namespace aV
def K0:=Func.code Tryz.f28
def K2:=cb K0
def K3:=ca K2
def K6:=cb K3
def K7:=ca K6
def K8:=ca K7
end aV
def aV.pt(s:ByteArray)(H:zV)(R:zk):Prop:=
 ∀(b:Nat) (H1:zV),b=H.size->H1=H.push (.stringIter s 0)->
 ∃(I9:zv) (m9:Int->zV->Nat),I9 0 H1/\ ∀(nv:Int) (H2:zV),I9 nv H2->
 ∃(a:ByteArray) (pos:Nat),H2[b]?=some (.stringIter a pos)/\
 if pos<a.size then(∀H3:zV,H3=bC H2 b (.stringIter a (pos+(Utf8.decode a pos).2))->
 (I9 (zY (nv+1)) H3/\m9 (zY (nv+1)) H3<m9 nv H2))
 else
 R (.int .i64 nv) H2
namespace aV
theorem link{s:ByteArray}{H:zV}{R:zk}(h:pt s H R):C s H R:=by
 refine T_en K0 10 Tryz.func28 ?_
 intro w0 Q hQ
 unfold pt zY at h
 refine T_su [(0,.string s)]<| ar 0<| T_ed 1 [] [(2,vi 0)]<| T_sz<| ar 1<| T_nd 1 [0] [(3,.string s)]<| T_nw (some 4) (λb=>vp (pa b)) (.stringIter s 0) ?_
 intro b H1 e1 e2
 replace h:=h b H1 e1 e2
 refine T_pd [3] [(4,vp (pa b))]<| T_e<| T_bz 0 ?_
 obtain⟨I9,m9,i3,i4⟩:=h
 refine bO (x:=K8) (σ:=Int) (λs_=> [(2,vi s_),(4,vp (pa b))]) (λs_ H=>I9 s_ H) (λs_ H=>m9 s_ H) (0:Int) (by kernel_rfl) i3 sk ?_
 rintro nv H2 i5
 have h:=i4 nv H2 i5
 refine T_su [(2,vi nv),(4,vp (pa b))]<| ar 2 ?_
 obtain⟨a,pos,q6,h⟩:=h
 by_cases c7:pos<a.size
 ·rw[if_pos c7]at h
  refine N_op (some 5) (kO (vp (pa b)) true 0) _ (λ_=>by kernel_rfl) (pI q6 c7) ?_
  rintro _ H3 ⟨rfl,e8⟩
  replace h:=h H3 (by assumption)
  exact T_pd [] [(5,.tuple #[.bool true,vi pos,.int .i32 ((Utf8.decode a pos).1:Int)])]<| T_ed 1 [5] [(6,.bool true)]<| T_sz<| T_tz 6<| T_kt<| T_bz 1<| T_rz 3<| T_nd 3 [2,6] [(2,vi (zY (nv+1)))]<| zq<| aB<| aC<| aK ((zY (nv+1)):Int) sk h
 rw[if_neg c7]at h
 refine N_op (some 5) (kO (vp (pa b)) true 0) _ (λ_=>by kernel_rfl) (nR q6 c7) ?_
 rintro _ _ ⟨rfl,rfl⟩
 exact T_pd [] [(5,.tuple #[.bool false])]<| T_ed 1 [5] [(6,.bool false)]<| T_sz<| T_fz 6<| zj 0<| aA<| aA<| aH<| aC<| ar 4<| T_nr 2 [2] [vi nv] hQ h
end aV

/-! unicode/utf8.word[string] -/
namespace aQ
def K0:=Func.code Tryz.f63
def K2:=cb K0
def K3:=ca K2
def K5:=ca K3
def K6:=cb K3
end aQ
def aQ.pt(s:ByteArray)(H:zV)(R:zk):Prop:=
 ∃c:UInt8,((0:Int)<=0/\s[Int.toNat 0]?=some c)/\
 ∃a:UInt8,((0:Int)<=1/\s[Int.toNat 1]?=some a)/\
 ∃b:UInt8,((0:Int)<=2/\s[Int.toNat 2]?=some b)/\
 ∃d:UInt8,((0:Int)<=3/\s[Int.toNat 3]?=some d)/\
 ∃f:UInt8,((0:Int)<=4/\s[Int.toNat 4]?=some f)/\
 ∃g:UInt8,((0:Int)<=5/\s[Int.toNat 5]?=some g)/\
 ∃j:UInt8,((0:Int)<=6/\s[Int.toNat 6]?=some j)/\
 ∃l:UInt8,((0:Int)<=7/\s[Int.toNat 7]?=some l)/\
 R (.int .u64 (ior .u64 (ior .u64 (ior .u64 (ior .u64 (ior .u64 (ior .u64 (ior .u64 (IntKind.wrap .u64 ((c.toNat:Nat):Int)) (ishl .u64 (IntKind.wrap .u64 ((a.toNat:Nat):Int)) 8)) (ishl .u64 (IntKind.wrap .u64 ((b.toNat:Nat):Int)) 16)) (ishl .u64 (IntKind.wrap .u64 ((d.toNat:Nat):Int)) 24)) (ishl .u64 (IntKind.wrap .u64 ((f.toNat:Nat):Int)) 32)) (ishl .u64 (IntKind.wrap .u64 ((g.toNat:Nat):Int)) 40)) (ishl .u64 (IntKind.wrap .u64 ((j.toNat:Nat):Int)) 48)) (ishl .u64 (IntKind.wrap .u64 ((l.toNat:Nat):Int)) 56))) H
namespace aQ
theorem link{s:ByteArray}{H:zV}{R:zk}(h:pt s H R):C s H R:=by
 refine T_en K0 59 Tryz.func63 ?_
 intro w0 Q hQ
 unfold pt at h
 refine T_su [(0,.string s)]<| ar 0<| T_ed 1 [] []<| T_sz<| iU (.const (.bool false)) K5 K6 (by kernel_rfl) (by kernel_rfl)<| T_kt<| T_sz<| jm 2<| T_q1 21 (.string s) [] ?_
 obtain⟨c,q1,h⟩:=h
 refine Q_op (some 22) (dj 9 (.string s) (vi 0)) (.int .u8 ((c.toNat:Nat):Int)) (λ_=>by kernel_rfl) (λw _=>aZ (P:=Tryz.prog) (t:=9) (s:=s) (k:=.i64) (i:=0) Tryz.underlying9 q1.1 q1.2 w) [(0,.string s),(22,.int .u8 ((c.toNat:Nat):Int))] pk ?_
 refine T_q (some 23) (vu (IntKind.wrap .u64 ((c.toNat:Nat):Int))) [(0,.string s),(23,vu (IntKind.wrap .u64 ((c.toNat:Nat):Int)))]<| T_q1 24 (.string s) [] ?_
 obtain⟨a,q2,h⟩:=h
 refine Q_op (some 25) (dj 9 (.string s) (vi 1)) (.int .u8 ((a.toNat:Nat):Int)) (λ_=>by kernel_rfl) (λw _=>aZ (P:=Tryz.prog) (t:=9) (s:=s) (k:=.i64) (i:=1) Tryz.underlying9 q2.1 q2.2 w) [(0,.string s),(23,vu (IntKind.wrap .u64 ((c.toNat:Nat):Int))),(25,.int .u8 ((a.toNat:Nat):Int))] pk ?_
 refine T_q (some 26) (vu (IntKind.wrap .u64 ((a.toNat:Nat):Int))) [(0,.string s),(23,vu (IntKind.wrap .u64 ((c.toNat:Nat):Int))),(26,vu (IntKind.wrap .u64 ((a.toNat:Nat):Int)))]<| T_q1 27 (vu (ishl .u64 (IntKind.wrap .u64 ((a.toNat:Nat):Int)) 8)) [26]<| T_q1 28 (vu (ior .u64 (IntKind.wrap .u64 ((c.toNat:Nat):Int)) (ishl .u64 (IntKind.wrap .u64 ((a.toNat:Nat):Int)) 8))) [23,27]<| T_q1 29 (.string s) [] ?_
 obtain⟨b,q3,h⟩:=h
 refine Q_op (some 30) (dj 9 (.string s) (vi 2)) (.int .u8 ((b.toNat:Nat):Int)) (λ_=>by kernel_rfl) (λw _=>aZ (P:=Tryz.prog) (t:=9) (s:=s) (k:=.i64) (i:=2) Tryz.underlying9 q3.1 q3.2 w) [(0,.string s),(28,vu (ior .u64 (IntKind.wrap .u64 ((c.toNat:Nat):Int)) (ishl .u64 (IntKind.wrap .u64 ((a.toNat:Nat):Int)) 8))),(30,.int .u8 ((b.toNat:Nat):Int))] pk ?_
 refine T_q (some 31) (vu (IntKind.wrap .u64 ((b.toNat:Nat):Int))) [(0,.string s),(28,vu (ior .u64 (IntKind.wrap .u64 ((c.toNat:Nat):Int)) (ishl .u64 (IntKind.wrap .u64 ((a.toNat:Nat):Int)) 8))),(31,vu (IntKind.wrap .u64 ((b.toNat:Nat):Int)))]<| T_q1 32 (vu (ishl .u64 (IntKind.wrap .u64 ((b.toNat:Nat):Int)) 16)) [31]<| T_q1 33 (vu (ior .u64 (ior .u64 (IntKind.wrap .u64 ((c.toNat:Nat):Int)) (ishl .u64 (IntKind.wrap .u64 ((a.toNat:Nat):Int)) 8)) (ishl .u64 (IntKind.wrap .u64 ((b.toNat:Nat):Int)) 16))) [28,32]<| T_q1 34 (.string s) [] ?_
 obtain⟨d,q4,h⟩:=h
 refine Q_op (some 35) (dj 9 (.string s) (vi 3)) (.int .u8 ((d.toNat:Nat):Int)) (λ_=>by kernel_rfl) (λw _=>aZ (P:=Tryz.prog) (t:=9) (s:=s) (k:=.i64) (i:=3) Tryz.underlying9 q4.1 q4.2 w) [(0,.string s),(33,vu (ior .u64 (ior .u64 (IntKind.wrap .u64 ((c.toNat:Nat):Int)) (ishl .u64 (IntKind.wrap .u64 ((a.toNat:Nat):Int)) 8)) (ishl .u64 (IntKind.wrap .u64 ((b.toNat:Nat):Int)) 16))),(35,.int .u8 ((d.toNat:Nat):Int))] pk ?_
 refine T_q (some 36) (vu (IntKind.wrap .u64 ((d.toNat:Nat):Int))) [(0,.string s),(33,vu (ior .u64 (ior .u64 (IntKind.wrap .u64 ((c.toNat:Nat):Int)) (ishl .u64 (IntKind.wrap .u64 ((a.toNat:Nat):Int)) 8)) (ishl .u64 (IntKind.wrap .u64 ((b.toNat:Nat):Int)) 16))),(36,vu (IntKind.wrap .u64 ((d.toNat:Nat):Int)))]<| T_q1 37 (vu (ishl .u64 (IntKind.wrap .u64 ((d.toNat:Nat):Int)) 24)) [36]<| T_q1 38 (vu (ior .u64 (ior .u64 (ior .u64 (IntKind.wrap .u64 ((c.toNat:Nat):Int)) (ishl .u64 (IntKind.wrap .u64 ((a.toNat:Nat):Int)) 8)) (ishl .u64 (IntKind.wrap .u64 ((b.toNat:Nat):Int)) 16)) (ishl .u64 (IntKind.wrap .u64 ((d.toNat:Nat):Int)) 24))) [33,37]<| T_q1 39 (.string s) [] ?_
 obtain⟨f,q5,h⟩:=h
 refine Q_op (some 40) (dj 9 (.string s) (vi 4)) (.int .u8 ((f.toNat:Nat):Int)) (λ_=>by kernel_rfl) (λw _=>aZ (P:=Tryz.prog) (t:=9) (s:=s) (k:=.i64) (i:=4) Tryz.underlying9 q5.1 q5.2 w) [(0,.string s),(38,vu (ior .u64 (ior .u64 (ior .u64 (IntKind.wrap .u64 ((c.toNat:Nat):Int)) (ishl .u64 (IntKind.wrap .u64 ((a.toNat:Nat):Int)) 8)) (ishl .u64 (IntKind.wrap .u64 ((b.toNat:Nat):Int)) 16)) (ishl .u64 (IntKind.wrap .u64 ((d.toNat:Nat):Int)) 24))),(40,.int .u8 ((f.toNat:Nat):Int))] pk ?_
 refine T_q (some 41) (vu (IntKind.wrap .u64 ((f.toNat:Nat):Int))) [(0,.string s),(38,vu (ior .u64 (ior .u64 (ior .u64 (IntKind.wrap .u64 ((c.toNat:Nat):Int)) (ishl .u64 (IntKind.wrap .u64 ((a.toNat:Nat):Int)) 8)) (ishl .u64 (IntKind.wrap .u64 ((b.toNat:Nat):Int)) 16)) (ishl .u64 (IntKind.wrap .u64 ((d.toNat:Nat):Int)) 24))),(41,vu (IntKind.wrap .u64 ((f.toNat:Nat):Int)))]<| T_q1 42 (vu (ishl .u64 (IntKind.wrap .u64 ((f.toNat:Nat):Int)) 32)) [41]<| T_q1 43 (vu (ior .u64 (ior .u64 (ior .u64 (ior .u64 (IntKind.wrap .u64 ((c.toNat:Nat):Int)) (ishl .u64 (IntKind.wrap .u64 ((a.toNat:Nat):Int)) 8)) (ishl .u64 (IntKind.wrap .u64 ((b.toNat:Nat):Int)) 16)) (ishl .u64 (IntKind.wrap .u64 ((d.toNat:Nat):Int)) 24)) (ishl .u64 (IntKind.wrap .u64 ((f.toNat:Nat):Int)) 32))) [38,42]<| T_q1 44 (.string s) [] ?_
 obtain⟨g,q6,h⟩:=h
 refine Q_op (some 45) (dj 9 (.string s) (vi 5)) (.int .u8 ((g.toNat:Nat):Int)) (λ_=>by kernel_rfl) (λw _=>aZ (P:=Tryz.prog) (t:=9) (s:=s) (k:=.i64) (i:=5) Tryz.underlying9 q6.1 q6.2 w) [(0,.string s),(43,vu (ior .u64 (ior .u64 (ior .u64 (ior .u64 (IntKind.wrap .u64 ((c.toNat:Nat):Int)) (ishl .u64 (IntKind.wrap .u64 ((a.toNat:Nat):Int)) 8)) (ishl .u64 (IntKind.wrap .u64 ((b.toNat:Nat):Int)) 16)) (ishl .u64 (IntKind.wrap .u64 ((d.toNat:Nat):Int)) 24)) (ishl .u64 (IntKind.wrap .u64 ((f.toNat:Nat):Int)) 32))),(45,.int .u8 ((g.toNat:Nat):Int))] pk ?_
 refine T_q (some 46) (vu (IntKind.wrap .u64 ((g.toNat:Nat):Int))) [(0,.string s),(43,vu (ior .u64 (ior .u64 (ior .u64 (ior .u64 (IntKind.wrap .u64 ((c.toNat:Nat):Int)) (ishl .u64 (IntKind.wrap .u64 ((a.toNat:Nat):Int)) 8)) (ishl .u64 (IntKind.wrap .u64 ((b.toNat:Nat):Int)) 16)) (ishl .u64 (IntKind.wrap .u64 ((d.toNat:Nat):Int)) 24)) (ishl .u64 (IntKind.wrap .u64 ((f.toNat:Nat):Int)) 32))),(46,vu (IntKind.wrap .u64 ((g.toNat:Nat):Int)))]<| T_q1 47 (vu (ishl .u64 (IntKind.wrap .u64 ((g.toNat:Nat):Int)) 40)) [46]<| T_q1 48 (vu (ior .u64 (ior .u64 (ior .u64 (ior .u64 (ior .u64 (IntKind.wrap .u64 ((c.toNat:Nat):Int)) (ishl .u64 (IntKind.wrap .u64 ((a.toNat:Nat):Int)) 8)) (ishl .u64 (IntKind.wrap .u64 ((b.toNat:Nat):Int)) 16)) (ishl .u64 (IntKind.wrap .u64 ((d.toNat:Nat):Int)) 24)) (ishl .u64 (IntKind.wrap .u64 ((f.toNat:Nat):Int)) 32)) (ishl .u64 (IntKind.wrap .u64 ((g.toNat:Nat):Int)) 40))) [43,47]<| T_q1 49 (.string s) [] ?_
 obtain⟨j,q7,h⟩:=h
 refine Q_op (some 50) (dj 9 (.string s) (vi 6)) (.int .u8 ((j.toNat:Nat):Int)) (λ_=>by kernel_rfl) (λw _=>aZ (P:=Tryz.prog) (t:=9) (s:=s) (k:=.i64) (i:=6) Tryz.underlying9 q7.1 q7.2 w) [(0,.string s),(48,vu (ior .u64 (ior .u64 (ior .u64 (ior .u64 (ior .u64 (IntKind.wrap .u64 ((c.toNat:Nat):Int)) (ishl .u64 (IntKind.wrap .u64 ((a.toNat:Nat):Int)) 8)) (ishl .u64 (IntKind.wrap .u64 ((b.toNat:Nat):Int)) 16)) (ishl .u64 (IntKind.wrap .u64 ((d.toNat:Nat):Int)) 24)) (ishl .u64 (IntKind.wrap .u64 ((f.toNat:Nat):Int)) 32)) (ishl .u64 (IntKind.wrap .u64 ((g.toNat:Nat):Int)) 40))),(50,.int .u8 ((j.toNat:Nat):Int))] pk ?_
 refine T_q (some 51) (vu (IntKind.wrap .u64 ((j.toNat:Nat):Int))) [(0,.string s),(48,vu (ior .u64 (ior .u64 (ior .u64 (ior .u64 (ior .u64 (IntKind.wrap .u64 ((c.toNat:Nat):Int)) (ishl .u64 (IntKind.wrap .u64 ((a.toNat:Nat):Int)) 8)) (ishl .u64 (IntKind.wrap .u64 ((b.toNat:Nat):Int)) 16)) (ishl .u64 (IntKind.wrap .u64 ((d.toNat:Nat):Int)) 24)) (ishl .u64 (IntKind.wrap .u64 ((f.toNat:Nat):Int)) 32)) (ishl .u64 (IntKind.wrap .u64 ((g.toNat:Nat):Int)) 40))),(51,vu (IntKind.wrap .u64 ((j.toNat:Nat):Int)))]<| T_q1 52 (vu (ishl .u64 (IntKind.wrap .u64 ((j.toNat:Nat):Int)) 48)) [51]<| T_q1 53 (vu (ior .u64 (ior .u64 (ior .u64 (ior .u64 (ior .u64 (ior .u64 (IntKind.wrap .u64 ((c.toNat:Nat):Int)) (ishl .u64 (IntKind.wrap .u64 ((a.toNat:Nat):Int)) 8)) (ishl .u64 (IntKind.wrap .u64 ((b.toNat:Nat):Int)) 16)) (ishl .u64 (IntKind.wrap .u64 ((d.toNat:Nat):Int)) 24)) (ishl .u64 (IntKind.wrap .u64 ((f.toNat:Nat):Int)) 32)) (ishl .u64 (IntKind.wrap .u64 ((g.toNat:Nat):Int)) 40)) (ishl .u64 (IntKind.wrap .u64 ((j.toNat:Nat):Int)) 48))) [48,52]<| T_q1 54 (.string s) [0] ?_
 obtain⟨l,q8,h⟩:=h
 refine Q_op (some 55) (dj 9 (.string s) (vi 7)) (.int .u8 ((l.toNat:Nat):Int)) (λ_=>by kernel_rfl) (λw _=>aZ (P:=Tryz.prog) (t:=9) (s:=s) (k:=.i64) (i:=7) Tryz.underlying9 q8.1 q8.2 w) [(53,vu (ior .u64 (ior .u64 (ior .u64 (ior .u64 (ior .u64 (ior .u64 (IntKind.wrap .u64 ((c.toNat:Nat):Int)) (ishl .u64 (IntKind.wrap .u64 ((a.toNat:Nat):Int)) 8)) (ishl .u64 (IntKind.wrap .u64 ((b.toNat:Nat):Int)) 16)) (ishl .u64 (IntKind.wrap .u64 ((d.toNat:Nat):Int)) 24)) (ishl .u64 (IntKind.wrap .u64 ((f.toNat:Nat):Int)) 32)) (ishl .u64 (IntKind.wrap .u64 ((g.toNat:Nat):Int)) 40)) (ishl .u64 (IntKind.wrap .u64 ((j.toNat:Nat):Int)) 48))),(55,.int .u8 ((l.toNat:Nat):Int))] pk ?_
 exact T_q (some 56) (vu (IntKind.wrap .u64 ((l.toNat:Nat):Int))) [(53,vu (ior .u64 (ior .u64 (ior .u64 (ior .u64 (ior .u64 (ior .u64 (IntKind.wrap .u64 ((c.toNat:Nat):Int)) (ishl .u64 (IntKind.wrap .u64 ((a.toNat:Nat):Int)) 8)) (ishl .u64 (IntKind.wrap .u64 ((b.toNat:Nat):Int)) 16)) (ishl .u64 (IntKind.wrap .u64 ((d.toNat:Nat):Int)) 24)) (ishl .u64 (IntKind.wrap .u64 ((f.toNat:Nat):Int)) 32)) (ishl .u64 (IntKind.wrap .u64 ((g.toNat:Nat):Int)) 40)) (ishl .u64 (IntKind.wrap .u64 ((j.toNat:Nat):Int)) 48))),(56,vu (IntKind.wrap .u64 ((l.toNat:Nat):Int)))]<| T_q1 57 (vu (ishl .u64 (IntKind.wrap .u64 ((l.toNat:Nat):Int)) 56)) [56]<| T_q1 58 (vu (ior .u64 (ior .u64 (ior .u64 (ior .u64 (ior .u64 (ior .u64 (ior .u64 (IntKind.wrap .u64 ((c.toNat:Nat):Int)) (ishl .u64 (IntKind.wrap .u64 ((a.toNat:Nat):Int)) 8)) (ishl .u64 (IntKind.wrap .u64 ((b.toNat:Nat):Int)) 16)) (ishl .u64 (IntKind.wrap .u64 ((d.toNat:Nat):Int)) 24)) (ishl .u64 (IntKind.wrap .u64 ((f.toNat:Nat):Int)) 32)) (ishl .u64 (IntKind.wrap .u64 ((g.toNat:Nat):Int)) 40)) (ishl .u64 (IntKind.wrap .u64 ((j.toNat:Nat):Int)) 48)) (ishl .u64 (IntKind.wrap .u64 ((l.toNat:Nat):Int)) 56))) [53,57]<| T_q1 2 (vu (ior .u64 (ior .u64 (ior .u64 (ior .u64 (ior .u64 (ior .u64 (ior .u64 (IntKind.wrap .u64 ((c.toNat:Nat):Int)) (ishl .u64 (IntKind.wrap .u64 ((a.toNat:Nat):Int)) 8)) (ishl .u64 (IntKind.wrap .u64 ((b.toNat:Nat):Int)) 16)) (ishl .u64 (IntKind.wrap .u64 ((d.toNat:Nat):Int)) 24)) (ishl .u64 (IntKind.wrap .u64 ((f.toNat:Nat):Int)) 32)) (ishl .u64 (IntKind.wrap .u64 ((g.toNat:Nat):Int)) 40)) (ishl .u64 (IntKind.wrap .u64 ((j.toNat:Nat):Int)) 48)) (ishl .u64 (IntKind.wrap .u64 ((l.toNat:Nat):Int)) 56))) [58]<| eV [(2,vu (ior .u64 (ior .u64 (ior .u64 (ior .u64 (ior .u64 (ior .u64 (ior .u64 (IntKind.wrap .u64 ((c.toNat:Nat):Int)) (ishl .u64 (IntKind.wrap .u64 ((a.toNat:Nat):Int)) 8)) (ishl .u64 (IntKind.wrap .u64 ((b.toNat:Nat):Int)) 16)) (ishl .u64 (IntKind.wrap .u64 ((d.toNat:Nat):Int)) 24)) (ishl .u64 (IntKind.wrap .u64 ((f.toNat:Nat):Int)) 32)) (ishl .u64 (IntKind.wrap .u64 ((g.toNat:Nat):Int)) 40)) (ishl .u64 (IntKind.wrap .u64 ((j.toNat:Nat):Int)) 48)) (ishl .u64 (IntKind.wrap .u64 ((l.toNat:Nat):Int)) 56)))] sk<| T_qe<| fF [2] [vu (ior .u64 (ior .u64 (ior .u64 (ior .u64 (ior .u64 (ior .u64 (ior .u64 (IntKind.wrap .u64 ((c.toNat:Nat):Int)) (ishl .u64 (IntKind.wrap .u64 ((a.toNat:Nat):Int)) 8)) (ishl .u64 (IntKind.wrap .u64 ((b.toNat:Nat):Int)) 16)) (ishl .u64 (IntKind.wrap .u64 ((d.toNat:Nat):Int)) 24)) (ishl .u64 (IntKind.wrap .u64 ((f.toNat:Nat):Int)) 32)) (ishl .u64 (IntKind.wrap .u64 ((g.toNat:Nat):Int)) 40)) (ishl .u64 (IntKind.wrap .u64 ((j.toNat:Nat):Int)) 48)) (ishl .u64 (IntKind.wrap .u64 ((l.toNat:Nat):Int)) 56))] hQ h
end aQ

