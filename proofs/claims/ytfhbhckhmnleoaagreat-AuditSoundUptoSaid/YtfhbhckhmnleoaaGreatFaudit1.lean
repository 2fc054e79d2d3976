/- Printed: what each function asks, and that it is sound. -/
import Derived.Test.YtfhbhckhmnleoaaGreatFnsC
set_option linter.unusedSimpArgs false
set_option linter.unusedVariables false
set_option maxRecDepth 100000
set_option maxHeartbeats 1000000
noncomputable section
namespace Go.Proofs.YtfhbhckhmnleoaaGreat
open Go Go.Proofs.Tryz
variable{H:zV}{d i:zW}{R:zv}
namespace jo
def K0:=Func.code f15
def K2:=cb K0
def K3:=ca K2
def K5:=cb K3
def Ad:=cb K5
def zG:=ca Ad
def Bb:=cb Ad
def zC:=cb zG
def zT:=ca zC
def Ac:=ca zT
def Bp:=cb Bb
def Be:=cb Bp
def AR:=ca Be
def BD:=cb Be
def AJ:=cb AR
def Ao:=ca AJ
def As:=ca Ao
def AZ:=cb As
def BG:=cb AZ
def BQ:=ca BG
def Ch:=ca BQ
def BA:=cb Ch
def BT:=cb BA
def Cm:=ca BT
def BK:=cb Cm
def BV:=cb BK
def BO:=ca BV
def Bm:=cb BD
def BP:=ca Bm
def BX:=cb BP
def BC:=ca BX
def K74:=ca BC
def K76:=cb K74
def K78:=cb K76
def K81:=ca K78
def K83:=ca K81
def K85:=cb K83
def K87:=cb K85
def K88:=ca K87
end jo
def jo.pt(tv lB:zW)(lN lC:Nat)(H:zV)(R:zv):Prop:=
 ∀b H1,b=H.size->H1=H.push (.cells #[vp tv] 37)->
 ∀e H2,e=H1.size->H2=H1.push (.cells #[vs lB lN lC] 31)->
 ∃x,hat H2 (ad b)=some (vp x)/\
 iT.C x H2 (λv H3=> ∃bw,v=.bool bw/\
 if bw=true then(
 ∃xB xN xC,hat H3 (ad e)=some (vs xB xN xC)/\
 kF.C xB xN xC H3 (λcs H4=> ∃bo bj bm,cs=vs bo bj bm/\
 R (vs bo bj bm) H4))
 else
 ∃b9 z b8,hat H3 (ad e)=some (vs b9 z b8)/\
 0<=(z:Int)/\(z:Int)<=(z:Int)/\8*(z:Int)<=2 ^ 48/\(z:Int)<=9223372036854775807/\
 ∀bg H5,bg=H3.size->H5=H3.push (.cells (Builtin.zeroCells #[vi 0] (Int.toNat (z:Int))) 3)->
 ∀d H6,d=H5.size->H6=H5.push (.cells #[VN] 75)->
 (aH H6 (ad d) 0 1)/\ ∀H7,H7=aP H6 (ad d) [vs (some (ad bg)) (Int.toNat (z:Int)) (Int.toNat (z:Int))] 0->
 ∃am j s,hat H7 (ad e)=some (vs am j s)/\
 ∃(b3:zw) (m20:Int->zV->Nat),b3 0 H7/\ ∀m H8,b3 m H8->
 if m< (j:Int)then(
 ∃aa,am=some aa/\
 yZ m j/\
 ∃aw ac,aM H8 (aa.add (Int.toNat m*2)) 0 [vu aw,vu ac]/\
 ∀aq H9,aq=H8.size->H9=H8.push (.cells #[vu 0,vu 0] 36)->
 (aH H9 (ad aq) 0 2)/\ ∀b1,b1=aP H9 (ad aq) [vu aw,vu ac] 0->
 ∃bp,hat b1 (ad b)=some (vp bp)/\
 ∃b4,hat b1 (ad aq)=some (vu b4)/\
 bH.C bp b4 b1 (λcu bs=> ∃bb,cu=.bool bb/\
 if bb=true then(
 (b3 (zY (m+1)) bs/\m20 (zY (m+1)) bs<m20 m H8))
 else
 ∃bn a7 bf,hat bs (ad d)=some (vs bn a7 bf)/\
 ∃av,bn=some av/\
 yZ m a7/\
 (aH bs (av.add (Int.toNat m*1)) 0 1)/\ ∀cc,cc=aP bs (av.add (Int.toNat m*1)) [vi 1] 0->
 (b3 (zY (m+1)) cc/\m20 (zY (m+1)) cc<m20 m H8)))
 else
 ∃(ce:zV->Prop) (m38:zV->Nat),ce H8/\ ∀b6,ce b6->
 ∃al o ae,hat b6 (ad e)=some (vs al o ae)/\
 ∃(cd:zw) (m44:Int->zV->Nat),cd 0 b6/\ ∀p H14,cd p H14->
 if p< (o:Int)then(
 ∃af,al=some af/\
 yZ p o/\
 ∃ag u,aM H14 (af.add (Int.toNat p*2)) 0 [vu ag,vu u]/\
 ∀ab H15,ab=H14.size->H15=H14.push (.cells #[vu 0,vu 0] 36)->
 (aH H15 (ad ab) 0 2)/\ ∀ci,ci=aP H15 (ad ab) [vu ag,vu u] 0->
 gO.C p (some (ad d)) (some (ad b)) (some (ad e)) ci (λcv bu=> ∃bt,cv=.bool bt/\
 if bt=true then(
 ∃bl a3 be,hat bu (ad d)=some (vs bl a3 be)/\
 ∃ax,bl=some ax/\
 yZ p a3/\
 (aH bu (ax.add (Int.toNat p*1)) 0 1)/\ ∀b0,b0=aP bu (ax.add (Int.toNat p*1)) [vi 2] 0->
 ∃br,hat b0 (ad b)=some (vp br)/\
 ∃b5,hat b0 (ad ab)=some (vu b5)/\
 aZ.C br b5 b0 (λcr cg=> ∃ao,cr=vu ao/\
 ∃ai,hat cg (ad b)=some (vp ai)/\
 ∃ay,hat cg (ad b)=some (vp ay)/\
 ∃a4,hat cg ((ad ab).add 1)=some (vu a4)/\
 aZ.C ay a4 cg (λcq cj=> ∃bx,cq=vu bx/\aM cj (ad b) 0 [vp ai]/\
 j3.C ai bx ao cj (λ_ cm=>
 ∃bi,hat cm (ad b)=some (vp bi)/\
 cU.C bi cm (λ_ cl=>
 (ce cl/\m38 cl<m38 b6))))))
 else
 (cd (zY (p+1)) bu/\m44 (zY (p+1)) bu<m44 p H14)))
 else
 ∃aj f n,hat H14 (ad e)=some (vs aj f n)/\
 ∃(bz:zW->Nat->Nat->zw) (m75:zW->Nat->Nat->Int->zV->Nat),bz none 0 0 0 H14/\ ∀g outN outC s68 H23,bz g outN outC s68 H23->
 if s68< (f:Int)then(
 ∃q,aj=some q/\
 yZ s68 f/\
 ∃ah y,aM H23 (q.add (Int.toNat s68*2)) 0 [vu ah,vu y]/\
 ∀r H24,r=H23.size->H24=H23.push (.cells #[vu 0,vu 0] 36)->
 (aH H24 (ad r) 0 2)/\ ∀bc,bc=aP H24 (ad r) [vu ah,vu y] 0->
 ∃bk a8 bd,hat bc (ad d)=some (vs bk a8 bd)/\
 ∃a9,bk=some a9/\
 yZ s68 a8/\
 ∃a1,hat bc (a9.add (Int.toNat s68*1))=some (vi a1)/\
 if a1<2 then(
 ∃a6,hat bc (ad b)=some (vp a6)/\
 ∃bh,hat bc ((ad r).add 1)=some (vu bh)/\
 bH.C a6 bh bc (λct bq=> ∃a5,ct=.bool a5/\
 if a5=true then(
 ∃ak,hat bq (ad b)=some (vp ak)/\
 ∃au,hat bq (ad r)=some (vu au)/\
 ∃an,hat bq (ad b)=some (vp an)/\
 ∃az,hat bq ((ad r).add 1)=some (vu az)/\
 aZ.C ak au bq (λcp ch=> ∃a0,cp=vu a0/\aM ch (ad b) 0 [vp an]/\aM ch ((ad r).add 1) 0 [vu az]/\
 aZ.C an az ch (λco cn=> ∃a2,co=vu a2/\
 ∀b2 H29,b2=cn.size->H29=cn.push (.cells #[vu a0,vu a2] 36)->
 bI 2 36 16 [vu 0,vu 0] g outN outC (some (ad b2)) 1 H29 (λap ba ck=>
 (bz ap (outN+1) ba (zY (s68+1)) ck/\m75 ap (outN+1) ba (zY (s68+1)) ck<m75 g outN outC s68 H23)))))
 else
 (bz g outN outC (zY (s68+1)) bq/\m75 g outN outC (zY (s68+1)) bq<m75 g outN outC s68 H23)))
 else
 (bz g outN outC (zY (s68+1)) bc/\m75 g outN outC (zY (s68+1)) bc<m75 g outN outC s68 H23))
 else
 R (vs g outN outC) H23)
theorem jo.link{lN lC:Nat}(h:pt d i lN lC H R):C d i lN lC H R:=by
 refine p0 K0 98 func15 ?_
 intro w0 Q hQ
 unfold pt zY at h
 refine kT [(0,vp d),(1,vs i lN lC)]<|ar 0<|sv (some 2) (λb=>vp (pa b)) (.cells #[vp d] 37)<|λb H1 e1 e2=>have h:=h b H1 e1 e2;kb [0] [(2,vp (pa b))]<|sv (some 3) (λb=>vp (pa b)) (.cells #[vs i lN lC] 31)<|λe H2 e3 e4=>have h:=h e H2 e3 e4;kb [1] [(3,vp (pa e))]<|eT 1 [] []<|vt K3 0 (by kernel_rfl) (by kernel_rfl)<|ge<|ar 1<|have⟨x,q5,h⟩:=h;hH 15 37 q5 []<|sa 16 [15] h λbw H3 h=>ym<|qx h (λc6 h=>?_) (λc6 h=>?_)
 ·exact aJ 16 c6<|ar 2<|yA [2,16] []<|have⟨xB,xN,xC,q8,h⟩:=h;hH 17 31 q8 [3]<|Bs 18 (λbo bj bm=>[(18,vs bo bj bm)]) h λbo bj bm H4 h=>hV 1 [4] [vs bo bj bm] hQ h
 refine aK 16 (zZ c6)<|kd<|ar 3<|yA [16] []<|have⟨b9,z,b8,q9,h⟩:=h;hH 19 31 q9 []<|eH 1 [19] [(20,vi z)]<|have⟨q10,q11,q12,q13,h⟩:=h;yO (some 21) (mg 75 (vi z) (vi z)) (λv Hz=>v=Value.slice (some (Addr.mk H3.size 0 none)) (Int.toNat (z:Int)) (Int.toNat (z:Int))/\Hz=H3.push (.cells (Builtin.zeroCells #[vi 0] (Int.toNat (z:Int))) 3)) (λ_=>by kernel_rfl) (um (T:=3) (zero:=vi 0) underlying75 (show prog.info? 3=some t3 from by kernel_rfl) (by kernel_rfl) q10 q11 q12 q13 (by kernel_rfl) (by decide)) ?_
 rintro _ H5 ⟨rfl,e15⟩
 obtain⟨bg,e14⟩: ∃b,b=H3.size:=⟨_,rfl⟩
 replace h:=h bg H5 e14 e15
 rw[<-e14]
 refine kb [20] [(21,vs (pa bg) (Int.toNat (z:Int)) (Int.toNat (z:Int)))]<|sv (some 5) (λb=>vp (pa b)) (.cells #[VN] 75)<|λlB H6 e16 e17=>have h:=h lB H6 e16 e17;kb [] [(5,vp (pa lB))]<|have⟨q19,h⟩:=h;eQ 75 (vs (pa bg) (Int.toNat (z:Int)) (Int.toNat (z:Int))) q19<|λH7 e18=>have h:=h H7 e18;kb [21] []<|ym<|ge<|ar 4<|have⟨am,j,s,q20,h⟩:=h;hH 22 31 q20 []<|eT 2 [] [(23,vi j),(24,vi 0)]<|o0 0<|have⟨b3,m20,i21,i22⟩:=h;bJ (x:=Ac) (σ:=Int) (λs_=> [(2,vp (pa b)),(3,vp (pa e)),(5,vp (pa lB)),(22,vs am j s),(23,vi j),(24,vi s_)]) (λs_ H=>b3 s_ H) (λs_ H=>m20 s_ H) (0:Int) (by kernel_rfl) i21 sk ?_
 rintro m H8 i23
 have h:=i22 m H8 i23
 refine kT [(2,vp (pa b)),(3,vp (pa e)),(5,vp (pa lB)),(22,vs am j s),(23,vi j),(24,vi m)]<|ar 5<|eT 1 [] [(25,.bool (decide (m< (j:Int))))]<|ge<|qx h (λc24 h=>?_) (λc24 h=>?_)
 ·refine aJ 25 (zX c24)<|kd<|ge<|o0 1<|ar 6<|eH 1 [25] [(26,vi m)] ?_
  obtain⟨aa,rfl,q26,ha⟩:=h
  refine yp (some 27) 31 36 2 aa j s .i64 m underlying31 q26.1 q26.2 [22] [(22,vs (some aa) j s),(27,Vq (aa.add (Int.toNat m*2)))]<|have⟨aw,ac,q27,h⟩:=ha;zr 28 36 q27 [27]<|sv (some 7) (λb=>vp (pa b)) (.cells #[vu 0,vu 0] 36)<|λaq H9 e28 e29=>have h:=h aq H9 e28 e29;kb [] [(7,vp (pa aq))]<|eH 1 [26] [(6,vi m)]<|have⟨q31,h⟩:=h;fK 36 [vu aw,vu ac] q31<|λb1 e30=>have h:=h b1 e30;kb [28] []<|ym<|ar 7<|have⟨bp,q32,h⟩:=h;hH 29 37 q32 []<|eH 1 [7] [(30,vp (pa aq))]<|have⟨b4,q33,h⟩:=h;hH 31 28 q33 [30]<|sa 32 [29,31] h λbb bs h=>eT 1 [32] [(33,.bool (!bb))]<|qx h (λc34 h=>?_) (λc34 h=>?_)
  ·exact aK 33 (congrArg Bool.not (c34))<|yR<|aA<|aC<|nx 9<|eT 2 [6,24,33] [(24,vi (zY (m+1)))]<|aR ((zY (m+1)):Int) sk h
  refine aJ 33 (congrArg Bool.not (zZ c34))<|nx 8<|yA [33] []<|have⟨bn,a7,bf,q36,h⟩:=h;hH 34 75 q36 []<|eH 1 [6] [(35,vi m)] ?_
  obtain⟨av,rfl,q37,hb⟩:=h
  exact yp (some 36) 75 3 1 av a7 bf .i64 m underlying75 q37.1 q37.2 [34,35] [(36,Vq (av.add (Int.toNat m*1)))]<|have⟨q39,h⟩:=hb;eQ 3 (vi 1) q39<|λcc e38=>have h:=h cc e38;kb [36] []<|zq<|aA<|aC<|nx 9<|eT 2 [24] [(24,vi (zY (m+1)))]<|aR ((zY (m+1)):Int) sk h
 refine aK 25 (zQ c24)<|zk 0<|aB<|aB<|aN<|aC<|ar 10<|eT 2 [22,23,24,25] [(8,.func (.func 61) #[] #[vp (pa lB),vp (pa b),vp (pa e)])]<|have⟨ce,m38,i40,i41⟩:=h;vv 0 Be [(2,vp (pa b)),(3,vp (pa e)),(5,vp (pa lB)),(8,.func (.func 61) #[] #[vp (pa lB),vp (pa b),vp (pa e)])] ce m38 (by kernel_rfl) (by kernel_rfl) i40 sk ?_
 rintro b6 i42
 have h:=i41 b6 i42
 refine ge<|ar 11<|have⟨al,o,ae,q43,h⟩:=h;Cd (some 39) 31 q43 [(2,vp (pa b)),(3,vp (pa e)),(5,vp (pa lB)),(8,.func (.func 61) #[] #[vp (pa lB),vp (pa b),vp (pa e)]),(39,vs al o ae)]<|eT 2 [] [(40,vi o),(41,vi 0)]<|o0 2<|have⟨cd,m44,i44,i45⟩:=h;bJ (x:=As) (σ:=Int) (λs_=> [(2,vp (pa b)),(3,vp (pa e)),(5,vp (pa lB)),(8,.func (.func 61) #[] #[vp (pa lB),vp (pa b),vp (pa e)]),(39,vs al o ae),(40,vi o),(41,vi s_)]) (λs_ H=>cd s_ H) (λs_ H=>m44 s_ H) (0:Int) (by kernel_rfl) i44 sk ?_
 rintro p H14 i46
 have h:=i45 p H14 i46
 refine kT [(2,vp (pa b)),(3,vp (pa e)),(5,vp (pa lB)),(8,.func (.func 61) #[] #[vp (pa lB),vp (pa b),vp (pa e)]),(39,vs al o ae),(40,vi o),(41,vi p)]<|ar 12<|eT 1 [] [(42,.bool (decide (p< (o:Int))))]<|ge<|qx h (λc47 h=>?_) (λc47 h=>?_)
 ·refine aJ 42 (zX c47)<|kd<|ge<|o0 3<|ar 13<|eH 1 [42] [(43,vi p)] ?_
  obtain⟨af,rfl,q49,hc⟩:=h
  refine yp (some 44) 31 36 2 af o ae .i64 p underlying31 q49.1 q49.2 [39] [(39,vs (some af) o ae),(44,Vq (af.add (Int.toNat p*2)))]<|have⟨ag,u,q50,h⟩:=hc;zr 45 36 q50 [44]<|sv (some 10) (λb=>vp (pa b)) (.cells #[vu 0,vu 0] 36)<|λab H15 e51 e52=>have h:=h ab H15 e51 e52;kb [] [(10,vp (pa ab))]<|eH 1 [43] [(9,vi p)]<|have⟨q54,h⟩:=h;fK 36 [vu ag,vu u] q54<|λci e53=>have h:=h ci e53;kb [45] []<|ym<|ar 14<|eH 2 [] [(46,.func (.func 61) #[] #[vp (pa lB),vp (pa b),vp (pa e)]),(47,vi p)]<|sa 48 [46,47] h λbt bu h=>ym<|qx h (λc55 h=>?_) (λc55 h=>?_)
  ·refine aJ 48 c55<|ar 15<|yA [39,40,41,48] []<|have⟨bl,a3,be,q57,h⟩:=h;hH 49 75 q57 []<|eH 1 [9] [(50,vi p)] ?_
   obtain⟨ax,rfl,q58,hd⟩:=h
   refine yp (some 51) 75 3 1 ax a3 be .i64 p underlying75 q58.1 q58.2 [49,50] [(51,Vq (ax.add (Int.toNat p*1)))]<|have⟨q60,h⟩:=hd;eQ 3 (vi 2) q60<|λb0 e59=>have h:=h b0 e59;kb [51] []<|ym<|ar 16<|have⟨br,q61,h⟩:=h;hH 52 37 q61 []<|eH 1 [] [(53,vp (pa ab))]<|have⟨b5,q62,h⟩:=h;hH 54 28 q62 [53]<|sa 55 [52,54] h λao cg h=>eT 1 [55] [(11,vu ao)]<|ge ?_
   obtain⟨ai,q63,ay,q64,a4,q65,h⟩:=h
   refine yq 17 (Code.ops BO) [(6,(ad b),[vp ai]),(4,(ad b),[vp ay]),(4,((ad ab).add 1),[vu a4])] 7 (bv 7 0) (show aE _ _ _ from⟨⟨q63,trivial⟩,⟨q64,trivial⟩,⟨q65,trivial⟩,trivial⟩)<|zh 0 (some 56) (vp ai) (bv 7 1) [(2,vp (pa b)),(3,vp (pa e)),(5,vp (pa lB)),(8,.func (.func 61) #[] #[vp (pa lB),vp (pa b),vp (pa e)]),(10,vp (pa ab)),(11,vu ao),(56,vp ai)] (aQ 37 (vp (pa b))) (yY 6 yX)<|nc 1 57 (vp ay) (bv 7 3) [] (aQ 37 (vp (pa b))) (yY 4 yQ)<|aG 2 58 (Vq ((ad ab).add 1)) (bv 7 7) [10]<|nc 3 59 (vu a4) (bv 7 15) [58] (aQ 28 (Vq ((ad ab).add 1))) (yY 4 yJ)<|aG 5 61 (vu ao) (bv 7 47) [11]<|yx 4 (some 60) (bv 7 63) 13 #[vp ay,vu a4] h ?_;clear h
   rintro cq cj ⟨bx,rfl,f66,h⟩
   refine⟨[(2,vp (pa b)),(3,vp (pa e)),(5,vp (pa lB)),(8,.func (.func 61) #[] #[vp (pa lB),vp (pa b),vp (pa e)]),(56,vp ai),(60,vu bx),(61,vu ao)],pk,(show aE _ _ _ from⟨f66,trivial,trivial,trivial⟩),?_⟩
   refine yx 6 (some 62) (bv 7 127) 62 #[vp ai,vu bx,vu ao] h ?_;clear h
   refine λv_7 cm h=>⟨[(2,vp (pa b)),(3,vp (pa e)),(5,vp (pa lB)),(8,.func (.func 61) #[] #[vp (pa lB),vp (pa b),vp (pa e)])],pk,(show aE _ _ _ from⟨trivial,trivial,trivial,trivial⟩),?_⟩
   refine eP [(2,vp (pa b)),(3,vp (pa e)),(5,vp (pa lB)),(8,.func (.func 61) #[] #[vp (pa lB),vp (pa b),vp (pa e)])] sk<|yz<|aC<|ar 18 ?_
   obtain⟨bi,q67,h⟩:=h
   refine Cd (some 63) 37 q67 [(2,vp (pa b)),(3,vp (pa e)),(5,vp (pa lB)),(8,.func (.func 61) #[] #[vp (pa lB),vp (pa b),vp (pa e)]),(63,vp bi)]<|zf (some 64) h ?_;clear h
   exact λv_8 cl h=>kb [63] []<|ym<|xF 0 (by kernel_rfl)<|oG<|ni<|ni<|oG<|ni<|xH sk h
  exact aK 48 (zZ c55)<|yR<|aA<|aC<|nx 19<|eT 2 [9,10,41,48] [(41,vi (zY (p+1)))]<|aR ((zY (p+1)):Int) sk h
 refine aK 42 (zQ c47)<|zk 2<|aB<|aB<|aN<|aC<|ar 20<|eT 1 [8,39,40,41,42] [(12,VN)]<|ge<|ar 21<|have⟨aj,f,n,q68,h⟩:=h;hH 66 31 q68 [3]<|eT 2 [] [(67,vi f),(68,vi 0)]<|o0 4<|have⟨bz,m75,i69,i70⟩:=h;bJ (x:=K74) (σ:=zW×Nat×Nat×Int) (λs_=> [(2,vp (pa b)),(5,vp (pa lB)),(12,vs s_.1 s_.2.1 s_.2.2.1),(66,vs aj f n),(67,vi f),(68,vi s_.2.2.2)]) (λs_ H=>bz s_.1 s_.2.1 s_.2.2.1 s_.2.2.2 H) (λs_ H=>m75 s_.1 s_.2.1 s_.2.2.1 s_.2.2.2 H) ((none,0,0,0):zW×Nat×Nat×Int) (by kernel_rfl) i69 sk ?_
 rintro⟨g,outN,outC,s68⟩ H23 i71
 have h:=i70 g outN outC s68 H23 i71
 refine kT [(2,vp (pa b)),(5,vp (pa lB)),(12,vs g outN outC),(66,vs aj f n),(67,vi f),(68,vi s68)]<|ar 22<|eT 1 [] [(69,.bool (decide (s68< (f:Int))))]<|ge<|qx h (λc72 h=>?_) (λc72 h=>?_)
 ·refine aJ 69 (zX c72)<|kd<|ge<|o0 5<|ar 23<|eH 1 [69] [(70,vi s68)] ?_
  obtain⟨q,rfl,q74,he⟩:=h
  refine yp (some 71) 31 36 2 q f n .i64 s68 underlying31 q74.1 q74.2 [66] [(66,vs (some q) f n),(71,Vq (q.add (Int.toNat s68*2)))]<|have⟨ah,y,q75,h⟩:=he;zr 72 36 q75 [71]<|sv (some 14) (λb=>vp (pa b)) (.cells #[vu 0,vu 0] 36)<|λr H24 e76 e77=>have h:=h r H24 e76 e77;kb [] [(14,vp (pa r))]<|eH 1 [70] [(13,vi s68)]<|have⟨q79,h⟩:=h;fK 36 [vu ah,vu y] q79<|λbc e78=>have h:=h bc e78;kb [72] []<|ym<|ar 24<|have⟨bk,a8,bd,q80,h⟩:=h;hH 73 75 q80 []<|eH 1 [13] [(74,vi s68)] ?_
  obtain⟨a9,rfl,q81,hf⟩:=h
  refine yp (some 75) 75 3 1 a9 a8 bd .i64 s68 underlying75 q81.1 q81.2 [73,74] [(75,Vq (a9.add (Int.toNat s68*1)))]<|have⟨a1,q82,h⟩:=hf;hH 76 3 q82 [75]<|eH 2 [76] [(78,.bool (decide (a1<2)))]<|qx h (λc83 h=>?_) (λc83 h=>?_)
  ·refine oo 78 (zX c83)<|have⟨a6,q85,h⟩:=h;hH 79 37 q85 []<|eH 1 [] [(80,Vq ((ad r).add 1))]<|have⟨bh,q86,h⟩:=h;hH 81 28 q86 [80]<|sa 82 [79,81] h λa5 bq h=>eT 1 [78,82] [(83,.bool a5)]<|qx h (λc87 h=>?_) (λc87 h=>?_)
   ·refine aJ 83 c87 ?_
    obtain⟨ak,q89,au,q90,an,q91,az,q92,h⟩:=h
    refine yq 25 (Code.ops K88) [(4,(ad b),[vp ak]),(4,(ad r),[vu au]),(8,(ad b),[vp an]),(8,((ad r).add 1),[vu az])] 13 (bv 13 0) (show aE _ _ _ from⟨⟨q89,trivial⟩,⟨q90,trivial⟩,⟨q91,trivial⟩,⟨q92,trivial⟩,trivial⟩)<|y9 0 (some 84) (vs g outN outC) (bv 13 1) [(2,vp (pa b)),(5,vp (pa lB)),(12,vs g outN outC),(14,vp (pa r)),(66,vs (some q) f n),(67,vi f),(68,vi s68),(84,vs g outN outC)]<|nc 1 85 (vp ak) (bv 13 3) [] (aQ 37 (vp (pa b))) (yY 4 yX)<|aG 2 86 (vp (pa r)) (bv 13 7) []<|nc 3 87 (vu au) (bv 13 15) [86] (aQ 28 (vp (pa r))) (yY 4 yQ)<|nc 5 89 (vp an) (bv 13 47) [] (aQ 37 (vp (pa b))) (yY 8 yJ)<|aG 6 90 (Vq ((ad r).add 1)) (bv 13 111) [14]<|nc 7 91 (vu az) (bv 13 239) [90] (aQ 28 (Vq ((ad r).add 1))) (yY 8 yK)<|yx 4 (some 88) (bv 13 255) 13 #[vp ak,vu au] h ?_;clear h
    rintro cp ch ⟨a0,rfl,f93,f94,h⟩
    refine⟨[(2,vp (pa b)),(5,vp (pa lB)),(12,vs g outN outC),(66,vs (some q) f n),(67,vi f),(68,vi s68),(84,vs g outN outC),(88,vu a0),(89,vp an),(91,vu az)],pk,(show aE _ _ _ from⟨trivial,trivial,f93,f94,trivial⟩),?_⟩
    refine yx 8 (some 92) (bv 13 511) 13 #[vp an,vu az] h ?_;clear h
    rintro co cn ⟨a2,rfl,h⟩
    refine⟨[(2,vp (pa b)),(5,vp (pa lB)),(12,vs g outN outC),(66,vs (some q) f n),(67,vi f),(68,vi s68),(84,vs g outN outC),(88,vu a0),(92,vu a2)],pk,(show aE _ _ _ from⟨trivial,trivial,trivial,trivial,trivial⟩),?_⟩
    refine zh 9 (some 93) (.agg #[vu a0,vu a2]) (bv 13 1023) [(2,vp (pa b)),(5,vp (pa lB)),(12,vs g outN outC),(66,vs (some q) f n),(67,vi f),(68,vi s68),(84,vs g outN outC),(93,.agg #[vu a0,vu a2])] (pure (.value (.agg #[vu a0,vu a2])):Sem Next) (λ_ _ _ _ _=>rfl)<|mX 10 (some 94) (bv 13 2047) (λb=>vs (pa b) 1 1) (.cells #[vu a0,vu a2] 36) (by kernel_rfl) (λ_=>by kernel_rfl) (by kernel_rfl)<|λb2 H29 e95 e96=>have h:=h b2 H29 e95 e96;⟨[(2,vp (pa b)),(5,vp (pa lB)),(12,vs g outN outC),(66,vs (some q) f n),(67,vi f),(68,vi s68),(84,vs g outN outC),(94,vs (pa b2) 1 1)],pk,(show aE _ _ _ from⟨trivial,trivial,trivial,trivial,trivial⟩),?_⟩
    refine ob 11 (some 95) (bv 13 4095) (cG #[31,31] 31 #[vs g outN outC,vs (pa b2) 1 1]) _ (by kernel_rfl) (λ_=>by kernel_rfl) (bK (T:=36) (sz:=2) (bytes:=16) (zero:=(.agg #[vu 0,vu 0]:Value)) underlying31 underlying31 rfl (show prog.info? 36=some t36 from by kernel_rfl) (by kernel_rfl) (by kernel_rfl) (by decide) (by kernel_rfl) (by first | exact h | (simpa only[Value.cells,List.toList_toArray]using h))) (by kernel_rfl) ?_;clear h
    rintro _ ck ⟨ap,ba,rfl,h⟩
    refine⟨[(2,vp (pa b)),(5,vp (pa lB)),(12,vs g outN outC),(66,vs (some q) f n),(67,vi f),(68,vi s68),(95,vs ap (outN+1) ba)],pk,(show aE _ _ _ from⟨trivial,trivial,trivial,trivial,trivial⟩),?_⟩
    exact zh 12 (some 12) (vs ap (outN+1) ba) (bv 13 8191) [(2,vp (pa b)),(5,vp (pa lB)),(12,vs ap (outN+1) ba),(66,vs (some q) f n),(67,vi f),(68,vi s68)] (pure (.value (vs ap (outN+1) ba)):Sem Next) (λ_ _ _ _ _=>rfl)<|eP [(2,vp (pa b)),(5,vp (pa lB)),(12,vs ap (outN+1) ba),(66,vs (some q) f n),(67,vi f),(68,vi s68)] sk<|yz<|aA<|aC<|nx 26<|u5 2 [(2,vp (pa b)),(5,vp (pa lB)),(12,vs ap (outN+1) ba),(66,vs (some q) f n),(67,vi f),(68,vi (zY (s68+1)))]<|aR ((ap,(outN+1),ba,(zY (s68+1))):zW×Nat×Nat×Int) sk h
   exact aK 83 (zZ c87)<|yR<|aA<|aC<|nx 26<|eT 2 [14,68,83] [(68,vi (zY (s68+1)))]<|aR ((g,outN,outC,(zY (s68+1))):zW×Nat×Nat×Int) sk h
  exact oo 78 (zQ c83)<|eT 5 [78] [(83,VF)]<|yn 83<|yR<|aA<|aC<|nx 26<|eT 2 [14,68,83] [(68,vi (zY (s68+1)))]<|aR ((g,outN,outC,(zY (s68+1))):zW×Nat×Nat×Int) sk h
 exact aK 69 (zQ c72)<|zk 4<|aB<|aB<|aN<|aC<|ar 27<|hV 2 [4] [vs g outN outC] hQ h
namespace jp
def K0:=Func.code f20
def K2:=cb K0
def K8:=cb K2
def K9:=ca K8
def zu:=ca K9
def zd:=cb zu
def zG:=cb zd
def zC:=ca zG
def Ac:=ca zC
def AC:=cb Ac
def AN:=cb AC
def AU:=ca AN
def Aw:=cb AU
def Bc:=cb Aw
def AK:=cb Bc
def zI:=ca AK
end jp
def jp.pt(tv:zW)(H:zV)(R:zv):Prop:=
 iT.C tv H (λv H1=> ∃x,v=.bool x/\
 if x=true then(
 R (.tuple #[]) H1)
 else
 dO.C tv H1 (λaq H2=> ∃xB xN xC,aq=vs xB xN xC/\
 ∃(aa:zw) (m11:Int->zV->Nat),aa 0 H2/\ ∀b H3,aa b H3->
 if b< (xN:Int)then(
 ∃e,xB=some e/\
 yZ b xN/\
 ∃f,hat H3 (e.add (Int.toNat b*1))=some (vi f)/\
 ∃d,tv=some d/\
 ∃af,hat H3 d=some (vp af)/\
 ∃ah,af=some ah/\
 ∃ai,hat H3 ah=some (vp ai)/\
 ∃aj,ai=some aj/\
 ∃ag,hat H3 aj=some (vp ag)/\
 ∃ak,ag=some ak/\
 ∃r,hat H3 ak=some (vp r)/\
 cD.C r f H3 (λav H4=> ∃ra rb,av=.tuple #[vu ra,vi rb]/\
 dH.C (some d) ra H4 (λaz H5=> ∃o,az=.bool o/\
 if o=true then(
 bH.C (some d) ra H5 (λax H6=> ∃q,ax=.bool q/\
 if q=true then(
 ∃ao,hat H6 d=some (vp ao)/\
 ∃n,ao=some n/\
 ∃al,hat H6 n=some (vp al)/\
 ∃j,al=some j/\
 ∃am,hat H6 j=some (vp am)/\
 ∃g,am=some g/\
 ∃m,hat H6 g=some (vp m)/\
 aZ.C (some d) ra H6 (λaw H7=> ∃y,aw=vu y/\aM H7 d 0 [Vq n]/\aM H7 n 0 [Vq j]/\aM H7 j 0 [Vq g]/\aM H7 g 0 [vp m]/\
 bR.C m f y H7 (λay H8=> ∃an,ay=vi an/\
 (aa (zY (b+1)) H8/\m11 (zY (b+1)) H8<m11 b H3))))
 else
 ∃ac,hat H6 d=some (vp ac)/\
 ∃ab,ac=some ab/\
 ∃z,hat H6 ab=some (vp z)/\
 ∃ae,z=some ae/\
 ∃s,hat H6 ae=some (vp s)/\
 ∃u,s=some u/\
 ∃p,hat H6 u=some (vp p)/\
 bR.C p f 44 H6 (λau H9=> ∃ap,au=vi ap/\
 (aa (zY (b+1)) H9/\m11 (zY (b+1)) H9<m11 b H3))))
 else
 (aa (zY (b+1)) H5/\m11 (zY (b+1)) H5<m11 b H3))))
 else
 R (.tuple #[]) H3))
theorem jp.link(h:pt d H R):C d H R:=by
 refine p0 K0 76 func20 ?_
 intro w0 Q hQ
 unfold pt zY at h
 refine kT [(0,vp d)]<|ge<|ar 0<|eH 1 [] [(6,vp d)]<|sa 7 [6] h λx H1 h=>ym<|qx h (λc1 h=>?_) (λc1 h=>?_)
 ·exact aJ 7 c1<|iV [] [] hQ h
 refine aK 7 (zZ c1)<|kd<|ar 1<|eH 1 [7] [(8,vp d)]<|zt 9 [8] h λxB xN xC H2 h=>eT 2 [] [(10,vi xN),(11,vi 0)]<|o0 0<|have⟨aa,m11,i3,i4⟩:=h;bJ (x:=zu) (σ:=Int) (λs_=> [(0,vp d),(9,vs xB xN xC),(10,vi xN),(11,vi s_)]) (λs_ H=>aa s_ H) (λs_ H=>m11 s_ H) (0:Int) (by kernel_rfl) i3 sk ?_
 rintro b H3 i5
 have h:=i4 b H3 i5
 refine kT [(0,vp d),(9,vs xB xN xC),(10,vi xN),(11,vi b)]<|ar 2<|eT 1 [] [(12,.bool (decide (b< (xN:Int))))]<|ge<|qx h (λc6 h=>?_) (λc6 h=>?_)
 ·refine aJ 12 (zX c6)<|kd<|ge<|o0 1<|ar 3<|yA [12] [] ?_
  obtain⟨e,rfl,q8,ha⟩:=h
  refine yp (some 13) 75 3 1 e xN xC .i64 b underlying75 q8.1 q8.2 [9] [(9,vs (some e) xN xC),(13,Vq (e.add (Int.toNat b*1)))]<|have⟨f,q9,h⟩:=ha;hH 14 3 q9 [13]<|eT 1 [14] [(3,vi f)]<|ar 4<|eH 1 [] [(16,vp d)] ?_
  obtain⟨tv,rfl,hb⟩:=h
  refine eH 2 [0,16] [(0,Vq tv),(18,Vq tv)]<|have⟨af,q10,h⟩:=hb;hH 19 23 q10 [18] ?_
  obtain⟨ah,rfl,hc⟩:=h
  refine eH 2 [19] [(21,Vq ah)]<|have⟨ai,q11,h⟩:=hc;hH 22 49 q11 [21] ?_
  obtain⟨aj,rfl,hd⟩:=h
  refine eH 2 [22] [(24,Vq aj)]<|have⟨ag,q12,h⟩:=hd;hH 25 52 q12 [24] ?_
  obtain⟨ak,rfl,he⟩:=h
  refine eH 2 [25] [(27,Vq ak)]<|have⟨r,q13,h⟩:=he;hH 28 78 q13 [27]<|eH 1 [] [(29,vi f)]<|yD 30 [28,29] h λra rb H4 h=>eT 5 [30] [(4,vu ra)]<|o0 2<|ar 6<|eH 2 [] [(49,Vq tv),(50,vu ra)]<|sa 51 [49,50] h λo H5 h=>eT 2 [51] [(48,.bool (!o))]<|qx h (λc14 h=>?_) (λc14 h=>?_)
  ·refine aK 48 (congrArg Bool.not (c14))<|ar 7<|eH 2 [48] [(54,Vq tv),(55,vu ra)]<|sa 56 [54,55] h λq H6 h=>eT 1 [56] [(53,.bool q)]<|qx h (λc16 h=>?_) (λc16 h=>?_)
   ·refine aJ 53 c16 ?_
    obtain⟨ao,q18,n,rfl,al,q19,j,rfl,am,q20,g,rfl,m,q21,hf⟩:=h
    refine yq 8 (Code.ops zI) [(17,tv,[Vq n]),(17,n,[Vq j]),(17,j,[Vq g]),(17,g,[vp m])] 18 (bv 18 0) (show aE _ _ _ from⟨⟨q18,trivial⟩,⟨q19,trivial⟩,⟨q20,trivial⟩,⟨q21,trivial⟩,trivial⟩)<|y9 0 (some 57) (Vq tv) (bv 18 1) [(0,Vq tv),(3,vi f),(4,vu ra),(9,vs (some e) xN xC),(10,vi xN),(11,vi b),(57,Vq tv)]<|aG 1 58 (Vq tv) (bv 18 3) [57]<|aG 2 59 (Vq tv) (bv 18 7) [58]<|nc 3 60 (Vq n) (bv 18 15) [59] (aQ 23 (Vq tv)) (yY 17 yX)<|aG 4 61 (Vq n) (bv 18 31) [60]<|aG 5 62 (Vq n) (bv 18 63) [61]<|nc 6 63 (Vq j) (bv 18 127) [62] (aQ 49 (Vq n)) (yY 17 yQ)<|aG 7 64 (Vq j) (bv 18 255) [63]<|aG 8 65 (Vq j) (bv 18 511) [64]<|nc 9 66 (Vq g) (bv 18 1023) [65] (aQ 52 (Vq j)) (yY 17 yJ)<|aG 10 67 (Vq g) (bv 18 2047) [66]<|aG 11 68 (Vq g) (bv 18 4095) [67]<|nc 12 69 (vp m) (bv 18 8191) [68] (aQ 78 (Vq g)) (yY 17 yK)<|aG 13 70 (vi f) (bv 18 16383) [3]<|aG 14 71 (Vq tv) (bv 18 32767) []<|aG 15 72 (vu ra) (bv 18 65535) [4]<|yx 16 (some 73) (bv 18 131071) 13 #[Vq tv,vu ra] hf ?_;clear hf
    rintro aw H7 ⟨y,rfl,f22,f23,f24,f25,h⟩
    refine⟨[(0,Vq tv),(9,vs (some e) xN xC),(10,vi xN),(11,vi b),(69,vp m),(70,vi f),(73,vu y)],pk,(show aE _ _ _ from⟨f22,f23,f24,f25,trivial⟩),?_⟩
    refine yx 17 (some 74) (bv 18 262143) 54 #[vp m,vi f,vu y] h ?_;clear h
    rintro ay H8 ⟨an,rfl,h⟩
    refine⟨[(0,Vq tv),(9,vs (some e) xN xC),(10,vi xN),(11,vi b)],pk,(show aE _ _ _ from⟨trivial,trivial,trivial,trivial,trivial⟩),?_⟩
    exact eP [(0,Vq tv),(9,vs (some e) xN xC),(10,vi xN),(11,vi b)] sk<|yz<|aA<|aA<|aC<|nx 9<|u5 2 [(0,Vq tv),(9,vs (some e) xN xC),(10,vi xN),(11,vi (zY (b+1)))]<|aR ((zY (b+1)):Int) sk h
   refine aK 53 (zZ c16)<|nx 5<|eH 3 [4,53] [(35,Vq tv)]<|have⟨ac,q26,h⟩:=h;hH 36 23 q26 [35] ?_
   obtain⟨ab,rfl,hg⟩:=h
   refine eH 2 [36] [(38,Vq ab)]<|have⟨z,q27,h⟩:=hg;hH 39 49 q27 [38] ?_
   obtain⟨ae,rfl,hh⟩:=h
   refine eH 2 [39] [(41,Vq ae)]<|have⟨s,q28,h⟩:=hh;hH 42 52 q28 [41] ?_
   obtain⟨u,rfl,hi⟩:=h
   refine eH 2 [42] [(44,Vq u)] ?_
   obtain⟨p,q29,h⟩:=hi
   refine hH 45 78 q29 [44]<|eH 1 [3] [(46,vi f)]<|zf (some 47) h ?_;clear h
   rintro au H9 ⟨ap,rfl,h⟩
   exact kb [45,46] []<|zq<|aA<|aA<|aC<|nx 9<|eT 2 [11] [(11,vi (zY (b+1)))]<|aR ((zY (b+1)):Int) sk h
  exact aJ 48 (congrArg Bool.not (zZ c14))<|yR<|aA<|aA<|aC<|nx 9<|eT 2 [3,4,11,48] [(11,vi (zY (b+1)))]<|aR ((zY (b+1)):Int) sk h
 exact aK 12 (zQ c6)<|zk 0<|aB<|aB<|aN<|gF (fn:=f20) [] hQ (show bS _ _ _ [] _ from .nil) h
namespace jI
def K0:=Func.code f34
def K2:=cb K0
def K4:=cb K2
def zd:=cb K4
def Ad:=ca zd
def Ap:=cb Ad
def zC:=ca Ap
def zT:=ca zC
end jI
def jI.pt(tv lB:zW)(lN lC:Nat)(H:zV)(R:zv):Prop:=
 iT.C tv H (λv H1=> ∃x,v=.bool x/\
 if x=true then(
 aW.C lB lN lC H1 (λq H2=> ∃xB xN xC,q=vs xB xN xC/\
 R (vs xB xN xC) H2))
 else
 ∃(m:zW->Nat->Nat->zw) (m19:zW->Nat->Nat->Int->zV->Nat),m none 0 0 0 H1/\ ∀d outN outC s14 H3,m d outN outC s14 H3->
 if s14< (lN:Int)then(
 ∃e,lB=some e/\
 yZ s14 lN/\
 ∃f,hat H3 (e.add (Int.toNat s14*1))=some (vu f)/\
 bH.C tv f H3 (λo H4=> ∃g,o=.bool g/\
 if g=true then(
 aZ.C tv f H4 (λp H5=> ∃n,p=vu n/\
 ∀b H6,b=H5.size->H6=H5.push (.cells #[vu n] 28)->
 bI 1 28 8 [vu 0] d outN outC (some (ad b)) 1 H6 (λap j H7=>
 (m ap (outN+1) j (zY (s14+1)) H7/\m19 ap (outN+1) j (zY (s14+1)) H7<m19 d outN outC s14 H3))))
 else
 (m d outN outC (zY (s14+1)) H4/\m19 d outN outC (zY (s14+1)) H4<m19 d outN outC s14 H3)))
 else
 R (vs d outN outC) H3)
theorem jI.link{lN lC:Nat}(h:pt d i lN lC H R):C d i lN lC H R:=by
 refine p0 K0 29 func34 ?_
 intro w0 Q hQ
 unfold pt zY at h
 refine kT [(0,vp d),(1,vs i lN lC)]<|ar 0<|eT 1 [] []<|ge<|ar 1<|eH 1 [] [(8,vp d)]<|sa 9 [8] h λx H1 h=>ym<|qx h (λc1 h=>?_) (λc1 h=>?_)
 ·exact aJ 9 c1<|ar 2<|u8 1 [(10,vs i lN lC)]<|Bs 11 (λxB xN xC=>[(11,vs xB xN xC)]) h λxB xN xC H2 h=>hV 1 [4] [vs xB xN xC] hQ h
 refine aK 9 (zZ c1)<|kd<|ar 3<|eT 1 [9] [(5,VN)]<|ge<|ar 4<|eT 3 [1] [(12,vs i lN lC),(13,vi lN),(14,vi 0)]<|o0 0<|have⟨m,m19,i3,i4⟩:=h;bJ (x:=zT) (σ:=zW×Nat×Nat×Int) (λs_=> [(0,vp d),(5,vs s_.1 s_.2.1 s_.2.2.1),(12,vs i lN lC),(13,vi lN),(14,vi s_.2.2.2)]) (λs_ H=>m s_.1 s_.2.1 s_.2.2.1 s_.2.2.2 H) (λs_ H=>m19 s_.1 s_.2.1 s_.2.2.1 s_.2.2.2 H) ((none,0,0,0):zW×Nat×Nat×Int) (by kernel_rfl) i3 sk ?_
 rintro⟨lB,outN,outC,s14⟩ H3 i5
 have h:=i4 lB outN outC s14 H3 i5
 refine kT [(0,vp d),(5,vs lB outN outC),(12,vs i lN lC),(13,vi lN),(14,vi s14)]<|ar 5<|eT 1 [] [(15,.bool (decide (s14< (lN:Int))))]<|ge<|qx h (λc6 h=>?_) (λc6 h=>?_)
 ·refine aJ 15 (zX c6)<|kd<|ge<|o0 1<|ar 6<|yA [15] [] ?_
  obtain⟨e,rfl,q8,ha⟩:=h
  refine yp (some 16) 32 28 1 e lN lC .i64 s14 underlying32 q8.1 q8.2 [12] [(12,vs (some e) lN lC),(16,Vq (e.add (Int.toNat s14*1)))]<|have⟨f,q9,h⟩:=ha;hH 17 28 q9 [16]<|eT 1 [17] [(7,vu f)]<|ar 7<|eH 2 [] [(18,vp d),(19,vu f)]<|sa 20 [18,19] h λg H4 h=>ym<|qx h (λc10 h=>?_) (λc10 h=>?_)
  ·refine aJ 20 c10<|nx 8<|eH 3 [5,7,20] [(21,vs lB outN outC),(22,vp d),(23,vu f)]<|sa 24 [22,23] h λn H5 h=>sv (some 25) (λb=>vs (pa b) 1 1) (.cells #[vu n] 28) ?_
   intro b H6 e12 e13
   replace h:=h b H6 e12 e13
   refine kb [24] [(25,vs (pa b) 1 1)]<|yO (some 26) (cG #[32,32] 32 #[vs lB outN outC,vs (pa b) 1 1]) _ (λ_=>by kernel_rfl) (bK (T:=28) (sz:=1) (bytes:=8) (zero:=(vu 0:Value)) underlying32 underlying32 rfl (show prog.info? 28=some t28 from by kernel_rfl) (by kernel_rfl) (by kernel_rfl) (by decide) (by kernel_rfl) (by first | exact h | (simpa only[Value.cells,List.toList_toArray]using h))) ?_;clear h
   rintro _ H7 ⟨ap,j,rfl,h⟩
   exact kb [21,25] [(26,vs ap (outN+1) j)]<|eH 1 [26] [(5,vs ap (outN+1) j)]<|zq<|aA<|aC<|nx 9<|eT 2 [14] [(14,vi (zY (s14+1)))]<|aR ((ap,(outN+1),j,(zY (s14+1))):zW×Nat×Nat×Int) sk h
  exact aK 20 (zZ c10)<|yR<|aA<|aC<|nx 9<|eT 2 [7,14,20] [(14,vi (zY (s14+1)))]<|aR ((lB,outN,outC,(zY (s14+1))):zW×Nat×Nat×Int) sk h
 exact aK 15 (zQ c6)<|zk 0<|aB<|aB<|aN<|aC<|ar 10<|hV 2 [4] [vs lB outN outC] hQ h
def iT.K0:=Func.code f59
def iT.pt(tv:zW)(H:zV)(R:zv):Prop:=
 fE tv (
 R VT H) (λa=>
 dW.C (some a) H (λv H1=> ∃x,v=.bool x/\
 R (.bool x) H1))
theorem iT.link(h:pt d H R):C d H R:=by
 refine p0 K0 9 func59 ?_
 intro w0 Q hQ
 unfold pt at h
 refine kT [(0,vp d)]<|ar 0<|eT 1 [] []<|ar 1<|eH 1 [] [(3,vp d)] ?_
 rcases d with _ | a
 ·rw[onPtr_none]at h
  exact hV 6 [2] [VT] hQ h
 rw[onPtr_some]at h
 exact u8 3 [(5,VF),(6,Vq a)]<|sa 7 [6] h λx H1 h=>hV 2 [2] [.bool x] hQ h
def gO.K0:=Func.code f61
def gO.K2:=cb K0
def gO.K3:=ca K2
def gO.pt(i:Int)(r j g:zW)(H:zV)(R:zv):Prop:=
 ∃n,r=some n/\
 ∃xB xN xC,hat H n=some (vs xB xN xC)/\
 ∃b,xB=some b/\
 yZ i xN/\
 ∃x,hat H (b.add (Int.toNat i*1))=some (vi x)/\
 if x=1 then(
 ∃f,j=some f/\
 ∃o,hat H f=some (vp o)/\
 ∃d,g=some d/\
 ∃u m q,hat H d=some (vs u m q)/\
 ∃e,u=some e/\
 yZ i m/\
 ∃s,hat H ((e.add (Int.toNat i*2)).add 1)=some (vu s)/\
 bH.C o s H (λv H1=> ∃p,v=.bool p/\
 R (.bool p) H1))
 else
 R VF H
theorem gO.link{r:Int}{g:zW}(h:pt r d i g H R):C r d i g H R:=by
 refine p0 K0 20 func61 ?_
 intro w0 Q hQ
 unfold pt at h
 refine kT [(0,vi r),(1,vp d),(2,vp i),(3,vp g)]<|ar 0<|eT 1 [] []<|ge ?_
 obtain⟨n,rfl,xB,xN,xC,q1,b,rfl,q2,x,q3,ha⟩:=h
 have h:=ha
 revert h;refine AV (λc4 h=>?_) (λc4 h=>?_)
 ·obtain⟨f,rfl,o,q6,j,rfl,u,m,q,q7,e,rfl,q8,s,q9,hb⟩:=h
  refine yq 1 (Code.ops K3) [(12,n,[vs (some b) xN xC]),(12,(b.add (Int.toNat r*1)),[vi x]),(12,f,[vp o]),(12,j,[vs (some e) m q]),(12,((e.add (Int.toNat r*2)).add 1),[vu s])] 15 (bv 15 0) (show aE _ _ _ from⟨⟨q1,trivial⟩,⟨q3,trivial⟩,⟨q6,trivial⟩,⟨q7,trivial⟩,⟨q9,trivial⟩,trivial⟩)<|zh 0 (some 6) (vs (some b) xN xC) (bv 15 1) [(0,vi r),(2,vp (some f)),(3,vp (some j)),(6,vs (some b) xN xC)] (aQ 75 (vp (some n))) (yY 12 yX)<|aG 1 7 (vi r) (bv 15 3) []<|nc 2 8 (vp (some (b.add (Int.toNat r*1)))) (bv 15 7) [6,7] (bD 75 (vs (some b) xN xC) (vi r)) (λ_ w _ _ _=>dX (P:=prog) (t:=75) (elem:=3) (sz:=1) (a:=b) (len:=xN) (cap:=xC) (k:=.i64) (i:=r) underlying75 (λ_=>by kernel_rfl) q2.1 q2.2 w)<|nc 3 9 (vi x) (bv 15 15) [8] (aQ 3 (vp (some (b.add (Int.toNat r*1))))) (yY 12 yQ)<|aG 4 10 (.bool (x==1)) (bv 15 31) [9]<|aG 5 11 (.bool (x==1)) (bv 15 63) [10]<|BM 11 (zK c4)<|nc 6 12 (vp o) (bv 15 127) [2] (aQ 37 (vp (some f))) (yY 12 yJ)<|nc 7 13 (vs (some e) m q) (bv 15 255) [3] (aQ 31 (vp (some j))) (yY 12 yK)<|aG 8 14 (vi r) (bv 15 511) [0]<|nc 9 15 (vp (some (e.add (Int.toNat r*2)))) (bv 15 1023) [13,14] (bD 31 (vs (some e) m q) (vi r)) (λ_ w _ _ _=>dX (P:=prog) (t:=31) (elem:=36) (sz:=2) (a:=e) (len:=m) (cap:=q) (k:=.i64) (i:=r) underlying31 (λ_=>by kernel_rfl) q8.1 q8.2 w)<|aG 10 16 (vp (some ((e.add (Int.toNat r*2)).add 1))) (bv 15 2047) [15]<|nc 11 17 (vu s) (bv 15 4095) [16] (aQ 28 (vp (some ((e.add (Int.toNat r*2)).add 1)))) (yY 12 yV)<|yx 12 (some 18) (bv 15 8191) 28 #[vp o,vu s] hb ?_;clear hb
  rintro v H1 ⟨p,rfl,h⟩
  refine⟨[(11,VT),(18,.bool p)],pk,(show aE _ _ _ from⟨trivial,trivial,trivial,trivial,trivial,trivial⟩),?_⟩
  exact zh 13 (some 19) (.bool p) (bv 15 16383) [(19,.bool p)] (pure (.value (.bool p)):Sem Next) (λ_ _ _ _ _=>rfl)<|nc 14 5 (.bool p) (bv 15 32767) [19] (pure (.value (.bool p)):Sem Next) (λ_ _ _ _ _=>rfl)<|eP [(5,.bool p)] sk<|yz<|aC<|iV [5] [.bool p] hQ h
 exact yq 1 (Code.ops K3) [(15,n,[vs (some b) xN xC]),(15,(b.add (Int.toNat r*1)),[vi x])] 15 (bv 15 0) (show aE _ _ _ from⟨⟨q1,trivial⟩,⟨q3,trivial⟩,trivial⟩)<|zh 0 (some 6) (vs (some b) xN xC) (bv 15 1) [(0,vi r),(2,vp i),(3,vp g),(6,vs (some b) xN xC)] (aQ 75 (vp (some n))) (lD 15 (λ_=>by kernel_rfl) yX (.inr (by kernel_rfl)))<|aG 1 7 (vi r) (bv 15 3) []<|nc 2 8 (vp (some (b.add (Int.toNat r*1)))) (bv 15 7) [6,7] (bD 75 (vs (some b) xN xC) (vi r)) (λ_ w _ _ _=>dX (P:=prog) (t:=75) (elem:=3) (sz:=1) (a:=b) (len:=xN) (cap:=xC) (k:=.i64) (i:=r) underlying75 (λ_=>by kernel_rfl) q2.1 q2.2 w)<|nc 3 9 (vi x) (bv 15 15) [8] (aQ 3 (vp (some (b.add (Int.toNat r*1))))) (lD 15 (λ_=>by kernel_rfl) yQ (.inr (by kernel_rfl)))<|aG 4 10 (.bool (x==1)) (bv 15 31) [9]<|aG 5 11 (.bool (x==1)) (bv 15 63) [10]<|BM 11 (zJ c4)<|pu 6 (some 12) (bv 15 127) [2] [(12,undef)]<|pu 7 (some 13) (bv 15 255) [3] [(13,undef)]<|pu 8 (some 14) (bv 15 511) [0] [(14,undef)]<|pu 9 (some 15) (bv 15 1023) [13,14] [(15,undef)]<|pu 10 (some 16) (bv 15 2047) [15] [(16,undef)]<|pu 11 (some 17) (bv 15 4095) [16] [(17,undef)]<|pu 12 (some 18) (bv 15 8191) [12,17] [(18,undef)]<|aG 13 19 (.bool false) (bv 15 16383) [11,18]<|aG 14 5 (.bool false) (bv 15 32767) [19]<|eP [(5,.bool false)] sk<|yz<|aC<|iV [5] [.bool false] hQ h
def j3.K0:=Func.code f62
def j3.pt(tv:zW)(a e:Int)(H:zV)(R:zv):Prop:=
 ∃b,tv=some b/\
 ∃x,hat H b=some (vp x)/\
 bU.C x a H (λv H1=> ∃j,v=vi j/\
 if j=10 then(
 ∃n,hat H1 b=some (vp n)/\
 cL.C n a H1 (λt H2=> ∃k,t=vi k/\
 if k=2 then(
 eY.C (some b) e 20 H2 (λy H3=> ∃d,y=vu d/\
 if d=20 then(
 R (.tuple #[]) H3)
 else
 ∃m,hat H3 b=some (vp m)/\
 dD.C m a 10 1 H3 (λac H4=> ∃ra rb,ac=.tuple #[vu ra,vi rb]/\
 ∃p,hat H4 b=some (vp p)/\
 eD.C p ra d H4 (λaa H5=> ∃i,aa=vi i/\
 if i=0 then(
 ∃o,hat H5 b=some (vp o)/\
 eL.C o a 10 1 d H5 (λz H6=> ∃q,z=vi q/\
 R (.tuple #[]) H6))
 else
 ∃g,hat H5 b=some (vp g)/\
 eL.C g a 10 0 d H5 (λab H7=> ∃s,ab=vi s/\
 ∃f,hat H7 b=some (vp f)/\
 eL.C f a 10 1 d H7 (λu H8=> ∃r,u=vi r/\
 R (.tuple #[]) H8))))))
 else
 R (.tuple #[]) H2))
 else
 R (.tuple #[]) H1)
theorem j3.link{a e:Int}(h:pt d a e H R):C d a e H R:=by
 refine p0 K0 61 func62 ?_
 intro w0 Q hQ
 unfold pt at h
 refine kT [(0,vp d),(1,vu a),(2,vu e)]<|ge<|ar 0<|eH 1 [] [(9,vp d)] ?_
 obtain⟨b,rfl,ha⟩:=h
 refine eH 2 [0,9] [(0,Vq b),(11,Vq b)]<|have⟨x,q1,h⟩:=ha;hH 12 23 q1 [11]<|eH 1 [] [(13,vu a)]<|sa 14 [12,13] h λj H1 h=>eH 2 [14] [(16,.bool (j !=10))]<|qx h (λc2 h=>?_) (λc2 h=>?_)
 ·refine oo 16 (bne_eq_false_iff_eq.mpr c2)<|eH 3 [] [(19,Vq b)]<|have⟨n,q4,h⟩:=h;hH 20 23 q4 [19]<|eH 1 [] [(21,vu a)]<|sa 22 [20,21] h λk H2 h=>eT 2 [16,22] [(24,.bool (k !=2))]<|qx h (λc5 h=>?_) (λc5 h=>?_)
  ·refine aK 24 (bne_eq_false_iff_eq.mpr c5)<|kd<|ar 1<|eH 2 [2,24] [(25,Vq b),(26,vu e)]<|sa 27 [25,26] h λtv H3 h=>eT 1 [27] [(6,vu tv)]<|ge<|ar 2<|eT 2 [] [(29,.bool (tv==20))]<|qx h (λc7 h=>?_) (λc7 h=>?_)
   ·exact aJ 29 (zK c7)<|iV [] [] hQ h
   refine aK 29 (zJ c7)<|kd<|ge<|ar 3<|eH 3 [29] [(33,Vq b)]<|have⟨m,q9,h⟩:=h;hH 34 23 q9 [33]<|eH 1 [] [(35,vu a)]<|yD 36 [34,35] h λra rb H4 h=>eT 5 [36] [(7,vu ra)]<|ar 4<|eH 3 [] [(41,Vq b)]<|have⟨p,q10,h⟩:=h;hH 42 23 q10 [41]<|eH 2 [7] [(43,vu ra),(44,vu tv)]<|sa 45 [42,43,44] h λi H5 h=>eT 1 [45] [(46,.bool (i !=0))]<|qx h (λc11 h=>?_) (λc11 h=>?_)
   ·exact aK 46 (bne_eq_false_iff_eq.mpr c11)<|kd<|nx 6<|eH 3 [0,46] [(56,Vq b)]<|have⟨o,q13,h⟩:=h;hH 57 23 q13 [56]<|eH 2 [1,6] [(58,vu a),(59,vu tv)]<|yT 60 (λq=>[]) h λq H6 h=>zq<|gF (fn:=f62) [] hQ (show bS _ _ _ [] _ from .nil) h
   refine aJ 46 (bne_iff_ne.mpr c11)<|nx 5<|eH 3 [46] [(49,Vq b)] ?_
   obtain⟨g,q14,h⟩:=h
   refine hH 50 23 q14 [49]<|eH 2 [] [(51,vu a),(52,vu tv)]<|zf (some 53) h ?_;clear h
   rintro ab H7 ⟨s,rfl,h⟩
   exact kb [50,51,52] []<|ym<|nx 6<|eH 3 [0] [(56,Vq b)]<|have⟨f,q15,h⟩:=h;hH 57 23 q15 [56]<|eH 2 [1,6] [(58,vu a),(59,vu tv)]<|yT 60 (λr=>[]) h λr H8 h=>zq<|gF (fn:=f62) [] hQ (show bS _ _ _ [] _ from .nil) h
  exact aJ 24 (bne_iff_ne.mpr c5)<|iV [] [] hQ h
 exact oo 16 (bne_iff_ne.mpr c2)<|eT 8 [16] [(24,VT)]<|wc 24<|iV [] [] hQ h
variable{H:zV}{d:zW}{R:zv}
namespace iR
def K0:=Func.code f39
def K2:=cb K0
def K4:=cb K2
def K6:=cb K4
def K7:=ca K6
def zu:=cb K7
def K11:=ca zu
def zd:=ca K11
end iR
def iR.pt(hv g:zW)(m j:Nat)(H:zV)(R:zv):Prop:=
 jt.C hv g m j H (λv H1=> ∃n b e rb,v=.tuple #[vs n b e,.map rb]/\
 ∃(p:Int->zw) (m13:Int->Int->zV->Nat),p 0 0 H1/\ ∀d s18 H2,p d s18 H2->
 if s18< (b:Int)then(
 ∃f,n=some f/\
 yZ s18 b/\
 ∃x,hat H2 (f.add (Int.toNat s18*1))=some (vu x)/\
 bN.C hv x H2 (λq H3=> ∃o,q=vi o/\
 (p (zY (d+o)) (zY (s18+1)) H3/\m13 (zY (d+o)) (zY (s18+1)) H3<m13 d s18 H2)))
 else
 R (vi d) H2)
theorem iR.link{g:zW}{m j:Nat}(h:pt d g m j H R):C d g m j H R:=by
 refine p0 K0 29 func39 ?_
 intro w0 Q hQ
 unfold pt zY at h
 refine kT [(0,vp d),(1,vs g m j)]<|ar 0<|eT 1 [] []<|ar 1<|eH 2 [1] [(11,vp d),(12,vs g m j)]<|Bt 13 [11,12] h λn b e rb H1 h=>eT 5 [13] [(5,vs n b e)]<|ar 2<|eT 1 [] [(7,vi 0)]<|ge<|ar 3<|eT 3 [5] [(16,vs n b e),(17,vi b),(18,vi 0)]<|o0 0<|have⟨p,m13,i1,i2⟩:=h;bJ (x:=zd) (σ:=Int×Int) (λs_=> [(0,vp d),(7,vi s_.1),(16,vs n b e),(17,vi b),(18,vi s_.2)]) (λs_ H=>p s_.1 s_.2 H) (λs_ H=>m13 s_.1 s_.2 H) ((0,0):Int×Int) (by kernel_rfl) i1 sk ?_
 rintro⟨hv,s18⟩ H2 i3
 have h:=i2 hv s18 H2 i3
 refine kT [(0,vp d),(7,vi hv),(16,vs n b e),(17,vi b),(18,vi s18)]<|ar 4<|eT 1 [] [(19,.bool (decide (s18< (b:Int))))]<|ge<|qx h (λc4 h=>?_) (λc4 h=>?_)
 ·refine aJ 19 (zX c4)<|kd<|ge<|o0 1<|ar 5<|yA [19] [] ?_
  obtain⟨f,rfl,q6,ha⟩:=h
  exact yp (some 20) 32 28 1 f b e .i64 s18 underlying32 q6.1 q6.2 [16] [(16,vs (some f) b e),(20,Vq (f.add (Int.toNat s18*1)))]<|have⟨x,q7,h⟩:=ha;hH 21 28 q7 [20]<|eT 1 [21] [(9,vu x)]<|nx 6<|eH 3 [7,9] [(22,vi hv),(23,vp d),(24,vu x)]<|sa 25 [23,24] h λo H3 h=>eH 2 [22,25] [(7,vi (zY (hv+o)))]<|zq<|aA<|aC<|nx 7<|eT 2 [18] [(18,vi (zY (s18+1)))]<|aR (((zY (hv+o)),(zY (s18+1))):Int×Int) sk h
 exact aK 19 (zQ c4)<|zk 0<|aB<|aB<|aN<|aC<|ar 8<|hV 2 [4] [vi hv] hQ h
namespace gR
def K0:=Func.code f77
def K2:=cb K0
def K4:=cb K2
def K5:=ca K4
def K8:=cb K5
def K9:=ca K8
def zu:=ca K9
def K11:=cb K9
end gR
def gR.pt(hv:zW)(H:zV)(R:zv):Prop:=
 ∀b H1,b=H.size->H1=H.push (.cells #[VN] 32)->
 fB.C hv H1 (λv H2=>v=v/\
 ∀(rc:LoopState->Option Code->Obj) (lp:Nat) (H3:zV),lp=H2.size+1->H3=(H2.push (.deferred (some []))).push (rc .ready none)->
 ∀vY,(∀(a:Int) (x_3:Int) (H4:zV) (vRy:zv),H4[lp]?=some (rc .ready none)->
 (H4[lp]?=some (rc .ready none)/\ ∀H5,H5=aL H4 lp (rc .busy none)->
 if x_3>0 then(
 ∃xB xN xC,hat H5 (ad b)=some (vs xB xN xC)/\
 ∀i H6,i=H5.size->H6=H5.push (.cells #[vu a] 28)->
 bI 1 28 8 [vu 0] xB xN xC (some (ad i)) 1 H6 (λap j H7=>
 (aH H7 (ad b) 0 1)/\ ∀H8,H8=aP H7 (ad b) [vs ap (xN+1) j] 0->
 H8[lp]?=some (rc .busy none)/\
 vRy VT (aL H8 lp (rc .ready none))))
 else
 H5[lp]?=some (rc .busy none)/\
 vRy VT (aL H5 lp (rc .ready none)))->
 FC prog vY #[vu a,vi x_3] H4 vRy)->
 FE prog v #[vY] H3 (λ_ H9=>
 (H9[lp]?=some (rc .ready none)/\ ∀k,k=aL H9 lp (rc .exhausted none)->
 ∃e f d,hat k (ad b)=some (vs e f d)/\
 Shut (H2.size::[]) k (λm=>
 R (vs e f d) m))))
theorem gR.link(h:pt d H R):C d H R:=by
 refine p0 K0 17 func77 ?_
 intro w0 Q hQ
 unfold pt at h
 refine kT [(0,vp d)]<|ar 0<|eT 1 [] []<|ar 1<|sv (some 3) (λb=>vp (pa b)) (.cells #[VN] 32) ?_
 intro b H1 e1 e2
 replace h:=h b H1 e1 e2
 refine kb [] [(3,vp (pa b))]<|ym<|ge<|ar 2<|eH 1 [0] [(6,vp d)]<|zf (some 7) h ?_;clear h
 rintro v H2 ⟨-,h⟩
 refine kb [6] [(7,v)]<|ym<|o0 0<|ls (g:=.tmp 7) (ps:= #[8,9]) (assign:=zu) (body:=K11) (v) (by kernel_rfl) (by kernel_rfl) (by kernel_rfl)<|λrc lp H3 r3 e4 e5 y6=>FE.mono (h rc lp H3 e4 e5 (.func (.yield lp) #[] #[]) ?_) ?_
 ·clear h
  refine λa x_3 H4 vRy q7 h=>y6 #[vu a,vi x_3] H4 vRy (by kernel_rfl) q7 (λw1x=>?_)
  refine zP [] [(8,vu a),(9,vi x_3)]<|ar 3<|eT 1 [7,8] [(4,vu a)]<|nx 4<|eH 1 [9] [(5,vi x_3)]<|zq<|have⟨q9,h⟩:=h;aC<|lr r3 q9<|λH5 e8=>have h:=h H5 e8;o0 1<|ar 5<|eT 2 [5] [(11,.bool (decide (x_3>0)))]<|qx h (λc10 h=>?_) (λc10 h=>?_)
  ·refine aJ 11 (zX c10)<|nx 6<|yA [11] []<|have⟨xB,xN,xC,q12,h⟩:=h;hH 12 32 q12 []<|eH 1 [4] [(13,vu a)]<|sv (some 14) (λb=>vs (pa b) 1 1) (.cells #[vu a] 28) ?_
   intro i H6 e13 e14
   replace h:=h i H6 e13 e14
   refine kb [13] [(14,vs (pa i) 1 1)]<|yO (some 15) (cG #[32,32] 32 #[vs xB xN xC,vs (pa i) 1 1]) _ (λ_=>by kernel_rfl) (bK (T:=28) (sz:=1) (bytes:=8) (zero:=(vu 0:Value)) underlying32 underlying32 rfl (show prog.info? 28=some t28 from by kernel_rfl) (by kernel_rfl) (by kernel_rfl) (by decide) (by kernel_rfl) (by first | exact h | (simpa only[Value.cells,List.toList_toArray]using h))) ?_;clear h
   rintro _ H7 ⟨ap,j,rfl,h⟩
   refine kb [12,14] [(15,vs ap (xN+1) j)]<|have⟨q16,h⟩:=h;eQ 32 (vs ap (xN+1) j) q16<|λH8 e15=>have h:=h H8 e15;⟨[],pk,?_⟩
   exact zq<|aA<|have⟨q17,h⟩:=h;bT r3 q17 h
  exact aK 11 (zQ c10)<|yR<|aA<|have⟨q18,h⟩:=h;bT r3 q18 h
 clear h y6
 rintro _ H9 (⟨q19,h⟩)
 refine .inl ⟨q19,λk e21=>?_⟩
 refine have h:=h k e21;kB (H2.size::[]) rfl<|zP [7] []<|aA<|aC<|ar 7<|have⟨e,f,hv,q20,h⟩:=h;hH 16 32 q20 [3]<|u5 1 [(2,vs e f hv)]<|zx ?_
 show At _ _ _ _ _ (Q .ret)
 refine lk (fn:=f77) (H2.size::[]) hQ (Shut.mono (λm h=>?_) h)
 exact⟨[vs e f hv],(show bS _ _ _ [.tmp 2] _ from .tmp (by kernel_rfl) (.nil)),h⟩
namespace fG
def K0:=Func.code f78
def K2:=cb K0
def K4:=cb K2
def K5:=ca K4
def K6:=cb K4
def K8:=cb K5
def K9:=ca K8
def zu:=ca K9
def K11:=cb K9
def AN:=ca K6
def AU:=cb K6
def Aw:=cb AN
def Ag:=ca Aw
def Bc:=ca Ag
def AK:=cb Bc
def AB:=cb AK
def AD:=ca AB
def Be:=ca AD
def BD:=cb Be
def AJ:=cb BD
def Ao:=ca AJ
def As:=ca Ao
def AX:=cb Ao
def BT:=ca AU
def B3:=cb BT
def BK:=ca B3
def K61:=ca BK
end fG
def fG.pt(hv e:zW)(j f:Nat)(H:zV)(R:zv):Prop:=
 ∀b H1,b=H.size->H1=H.push (.cells #[vi 0] 3)->
 ∀d H2,d=H1.size->H2=H1.push (.cells #[vi 0] 24)->
 ∀ak H3,ak=H2.size->H3=H2.push (.map #[] 0)->
 ∀m H4,m=H3.size->H4=H3.push (.cells #[.map none] 149)->
 (aH H4 (ad m) 0 1)/\ ∀H5,H5=aP H4 (ad m) [.map (some ak)] 0->
 fB.C hv H5 (λv H6=>v=v/\
 ∀(rc:LoopState->Option Code->Obj) (lp:Nat) (H7:zV),lp=H6.size+1->H7=(H6.push (.deferred (some []))).push (rc .ready none)->
 ∀vY,(∀(ab:Int) (x_3:Int) (H8:zV) (vRy:zv),H8[lp]?=some (rc .ready none)->
 (H8[lp]?=some (rc .ready none)/\ ∀H9,H9=aL H8 lp (rc .busy none)->
 if x_3=0 then(
 eV.C ab H9 (λbr a8=> ∃ao,br=vi ao/\
 (aH a8 (ad b) 0 1)/\ ∀aw,aw=aP a8 (ad b) [vi ao] 0->
 (aH aw (ad d) 0 1)/\ ∀a2,a2=aP aw (ad d) [vi 9] 0->
 a2[lp]?=some (rc .busy none)/\
 vRy VF (aL a2 lp (rc .done (some .ret)))))
 else
 ∃a0,hat H9 (ad m)=some (.map a0)/\
 ∃mr,a0=some mr/\
 ∃es cl ks,H9[mr]?=some (.map es cl)/\va (aY .u64) es.toList ks/\
 ∀a1 cl_2 H13,H13=aL H9 mr (.map a1 cl_2)->va (aY .u64) a1.toList (yr ks ab (vi x_3))->
 H13[lp]?=some (rc .busy none)/\
 vRy VT (aL H13 lp (rc .ready none)))->
 FC prog vY #[vu ab,vi x_3] H8 vRy)->
 FE prog v #[vY] H7 (λ_ a5=>
 (a5[lp]?=some (rc .ready none)/\ ∀aj,aj=aL a5 lp (rc .exhausted none)->
 gR.C hv aj (λbw bu=> ∃xB xN xC,bw=vs xB xN xC/\
 ∃(az:Int->(List Nat)->zV->Prop) (m29:Int->(List Nat)->zV->Nat),az 0 (H6.size::[]) bu/\ ∀(p:Int) (ms:List Nat) (H17:zV),az p ms H17->
 if p< (xN:Int)then(
 ∃ae,xB=some ae/\
 yZ p xN/\
 ∃an,hat H17 (ae.add (Int.toNat p*1))=some (vu an)/\
 bQ.C hv an H17 (λap ah=>ap=ap/\
 ∀(aa:LoopState->Option Code->Obj) (lp_2:Nat) (H19:zV),lp_2=ah.size+1->H19=(ah.push (.deferred (some []))).push (aa .ready none)->
 ∀bn,(∀(ac:Int) (x_9:Int) (H20:zV) (vRy_2:zv),H20[lp_2]?=some (aa .ready none)->
 (H20[lp_2]?=some (aa .ready none)/\ ∀a3,a3=aL H20 lp_2 (aa .busy none)->
 ∃al,hat a3 (ad m)=some (.map al)/\
 fI.C x_9 al a3 (λbp ax=> ∃z,bp=vi z/\
 if z=0 then(
 ax[lp_2]?=some (aa .busy none)/\
 vRy_2 VT (aL ax lp_2 (aa .ready none)))
 else
 (aH ax (ad b) 0 1)/\ ∀av,av=aP ax (ad b) [vi ac] 0->
 (aH av (ad d) 0 1)/\ ∀a6,a6=aP av (ad d) [vi z] 0->
 a6[lp_2]?=some (aa .busy none)/\
 vRy_2 VF (aL a6 lp_2 (aa .done (some .ret)))))->
 FC prog bn #[vi ac,vu x_9] H20 vRy_2)->
 FE prog ap #[bn] H19 (λ_ a7=>
 (a7[lp_2]?=some (aa .ready none)/\ ∀ai,ai=aL a7 lp_2 (aa .exhausted none)->
 (az (zY (p+1)) (ah.size::ms) ai/\m29 (zY (p+1)) (ah.size::ms) ai<m29 p ms H17))\/
 (a7[lp_2]?=some (aa .done (some .ret))/\ ∀ai,ai=aL a7 lp_2 (aa .exhausted (some .ret))->
 Shut (ah.size::ms) ai (λbi=>
 ∃r,hat bi (ad b)=some (vi r)/\
 ∃bk,hat bi (ad d)=some (vi bk)/\
 R (.tuple #[vi r,vi bk]) bi)))))
 else
 iG.C hv e j f H17 (λbo bt=> ∃af n q,bo=vs af n q/\
 ∃(a4:zw) (m62:Int->zV->Nat),a4 0 bt/\ ∀o H29,a4 o H29->
 if o< (n:Int)then(
 ∃u,af=some u/\
 yZ o n/\
 ∃ag,hat H29 (u.add (Int.toNat o*1))=some (vu ag)/\
 ∃am,hat H29 (ad m)=some (.map am)/\
 fI.C ag am H29 (λbq aq=> ∃y,bq=vi y/\
 if y=0 then(
 (a4 (zY (o+1)) aq/\m62 (zY (o+1)) aq<m62 o H29))
 else
 (aH aq (ad b) 0 1)/\ ∀au,au=aP aq (ad b) [vi (-1)] 0->
 (aH au (ad d) 0 1)/\ ∀bf,bf=aP au (ad d) [vi y] 0->
 Shut (ms) bf (λbb=>
 ∃bl,hat bb (ad b)=some (vi bl)/\
 ∃bg,hat bb (ad d)=some (vi bg)/\
 R (.tuple #[vi bl,vi bg]) bb)))
 else
 jq.C hv H29 (λbs a9=> ∃ra rb,bs=.tuple #[vi ra,vi rb]/\
 (aH a9 (ad b) 0 1)/\ ∀ay,ay=aP a9 (ad b) [vi ra] 0->
 (aH ay (ad d) 0 1)/\ ∀ba,ba=aP ay (ad d) [vi rb] 0->
 Shut (ms) ba (λbe=>
 ∃bm,hat be (ad b)=some (vi bm)/\
 ∃bc,hat be (ad d)=some (vi bc)/\
 R (.tuple #[vi bm,vi bc]) be)))))\/
 (a5[lp]?=some (rc .done (some .ret))/\ ∀aj,aj=aL a5 lp (rc .exhausted (some .ret))->
 Shut (H6.size::[]) aj (λbd=>
 ∃bh,hat bd (ad b)=some (vi bh)/\
 ∃bj,hat bd (ad d)=some (vi bj)/\
 R (.tuple #[vi bh,vi bj]) bd))))
theorem fG.link{e:zW}{j f:Nat}(h:pt d e j f H R):C d e j f H R:=by
 refine p0 K0 68 func78 ?_
 intro w0 Q hQ
 unfold pt zY at h
 refine kT [(0,vp d),(1,vs e j f)]<|ar 0<|sv (some 4) (λb=>vp (pa b)) (.cells #[vi 0] 3)<|λb H1 e1 e2=>have h:=h b H1 e1 e2;kb [] [(4,vp (pa b))]<|sv (some 5) (λb=>vp (pa b)) (.cells #[vi 0] 24)<|λhv H2 e3 e4=>have h:=h hv H2 e3 e4;kb [] [(5,vp (pa hv))]<|ym<|ar 1<|sv (some 17) (λb=> .map (some b)) (.map #[] 0)<|λak H3 e5 e6=>have h:=h ak H3 e5 e6;kb [] [(17,.map (some ak))]<|sv (some 6) (λb=>vp (pa b)) (.cells #[.map none] 149)<|λm H4 e7 e8=>have h:=h m H4 e7 e8;kb [] [(6,vp (pa m))]<|have⟨q10,h⟩:=h;eQ 149 (.map (some ak)) q10 ?_
 intro H5 e9
 replace h:=h H5 e9
 refine kb [17] []<|ym<|ge<|ar 2<|eH 1 [] [(18,vp d)]<|zf (some 19) h ?_;clear h
 rintro v H6 ⟨-,h⟩
 refine kb [18] [(19,v)]<|ym<|o0 0<|ls (g:=.tmp 19) (ps:= #[20,21]) (assign:=zu) (body:=K11) (v) (by kernel_rfl) (by kernel_rfl) (by kernel_rfl)<|λrc lp H7 r11 e12 e13 y14=>FE.mono (h rc lp H7 e12 e13 (.func (.yield lp) #[] #[]) ?_) ?_
 ·clear h
  refine λab x_3 H8 vRy q15 h=>y14 #[vu ab,vi x_3] H8 vRy (by kernel_rfl) q15 (λw1x=>?_)
  refine zP [] [(20,vu ab),(21,vi x_3)]<|ar 3<|eT 1 [0,1,19,20] [(7,vu ab)]<|nx 4<|eH 1 [21] [(8,vi x_3)]<|zq<|have⟨q17,h⟩:=h;aC<|lr r11 q17<|λH9 e16=>have h:=h H9 e16;o0 1<|ge<|ar 5<|eT 2 [] [(23,.bool (x_3==0))]<|qx h (λc18 h=>?_) (λc18 h=>?_)
  ·refine aJ 23 (zK c18)<|ar 6<|eH 1 [6,7,8,23] [(24,vu ab)]<|zf (some 25) h ?_;clear h
   rintro br a8 ⟨ao,rfl,h⟩
   refine kb [24] [(25,vi ao)]<|have⟨q21,h⟩:=h;eQ 3 (vi ao) q21<|λaw e20=>have h:=h aw e20;kb [4,25] []<|have⟨q23,h⟩:=h;eQ 24 (vi 9) q23<|λa2 e22=>have h:=h a2 e22;⟨[],pk,?_⟩
   refine ym<|zx ?_
   show At _ _ _ _ _ (roundPost _ _ _ .ret)
   exact have⟨q24,h⟩:=h;vn r11 q24 h
  refine aK 23 (zJ c18)<|kd<|nx 7<|yA [4,5,23] []<|have⟨a0,q25,h⟩:=h;hH 26 149 q25 [6]<|eH 2 [7,8] [(27,vu ab),(28,vi x_3)] ?_
  obtain⟨mr,rfl,es,cl,ks,q26,q27,ha⟩:=h
  refine mz none (mQ 149 (.map (some mr)) (vu ab) (vi x_3)) (λHz=> ∃es2 cl2,Hz=aL H9 mr (.map es2 cl2)/\va (aY .u64) es2.toList (yr ks ab (vi x_3))) (λ_=>by kernel_rfl) (λw hw=>by obtain⟨es2,cl2,q1,q2⟩:=nh (kk:=(aY .u64)) (P:=prog) (w:=w) (k:=ab) (v:=vi x_3) underlying149 underlying28 (by rw[hw];exact q26) q27;exact⟨_,q1,⟨rfl,rfl,rfl,Nat.le_refl _⟩,es2,cl2,by rw[<-hw],q2⟩) ?_
  rintro H13 ⟨a1,cl_2,e29,e30⟩
  refine have h:=ha a1 cl_2 H13 e29 e30;⟨[],pk,?_⟩
  exact zq<|aA<|have⟨q31,h⟩:=h;bT r11 q31 h
 clear h y14
 rintro _ a5 (⟨q32,h⟩ | ⟨q32,h⟩)
 ·refine .inl ⟨q32,λaj e84=>?_⟩
  refine have h:=h aj e84;kB (H6.size::[]) rfl<|zP [19] []<|aA<|aC<|ge<|ar 8<|eH 1 [] [(29,vp d)]<|zt 30 [29] h λxB xN xC bu h=>eT 2 [] [(31,vi xN),(32,vi 0)]<|o0 2<|have⟨az,m29,i33,i34⟩:=h;rx (x:=Bc) (σ:=Int×(List Nat)) (λs_=> [(0,vp d),(1,vs e j f),(4,vp (pa b)),(5,vp (pa hv)),(6,vp (pa m)),(30,vs xB xN xC),(31,vi xN),(32,vi s_.1)]) (λs_=>s_.2) (λs_ H=>az s_.1 s_.2 H) (λs_ H=>m29 s_.1 s_.2 H) ((0,(H6.size::[])):Int×(List Nat)) (by kernel_rfl) i33 sk ?_
  rintro⟨p,ms⟩ H17 i35
  have h:=i34 p ms H17 i35
  refine kT [(0,vp d),(1,vs e j f),(4,vp (pa b)),(5,vp (pa hv)),(6,vp (pa m)),(30,vs xB xN xC),(31,vi xN),(32,vi p)]<|ar 9<|eT 1 [] [(33,.bool (decide (p< (xN:Int))))]<|ge<|qx h (λc36 h=>?_) (λc36 h=>?_)
  ·refine aJ 33 (zX c36)<|kd<|ge<|o0 3<|ar 10<|yA [33] [] ?_
   obtain⟨ae,rfl,q38,hb⟩:=h
   refine yp (some 34) 32 28 1 ae xN xC .i64 p underlying32 q38.1 q38.2 [30] [(30,vs (some ae) xN xC),(34,Vq (ae.add (Int.toNat p*1)))] ?_
   obtain⟨an,q39,h⟩:=hb
   refine hH 35 28 q39 [34]<|eT 1 [35] [(10,vu an)]<|ar 11<|eH 2 [10] [(36,vp d),(37,vu an)]<|zf (some 38) h ?_;clear h
   rintro ap ah ⟨-,h⟩
   refine kb [36,37] [(38,ap)]<|ym<|o0 4<|ls (g:=.tmp 38) (ps:= #[39,40]) (assign:=As) (body:=AX) (ap) (by kernel_rfl) (by kernel_rfl) (by kernel_rfl)<|λaa lp_2 H19 r40 e41 e42 y43=>FE.mono (h aa lp_2 H19 e41 e42 (.func (.yield lp_2) #[] #[]) ?_) ?_
   ·clear h
    refine λac x_9 H20 vRy_2 q44 h=>y43 #[vi ac,vu x_9] H20 vRy_2 (by kernel_rfl) q44 (λw1x_2=>?_)
    refine zP [] [(39,vi ac),(40,vu x_9)]<|ar 12<|eT 1 [0,1,30,31,32,38,39] [(11,vi ac)]<|nx 13<|eH 1 [40] [(12,vu x_9)]<|zq<|have⟨q46,h⟩:=h;aC<|lr r40 q46<|λa3 e45=>have h:=h a3 e45;o0 5<|ar 14<|eH 1 [12] [(41,vu x_9)]<|have⟨al,q47,h⟩:=h;hH 42 149 q47 [6]<|sa 43 [41,42] h λz ax h=>eT 1 [43] [(13,vi z)]<|ar 15<|eT 2 [] [(45,.bool (z !=0))]<|qx h (λc48 h=>?_) (λc48 h=>?_)
    ·exact aK 45 (bne_eq_false_iff_eq.mpr c48)<|yR<|aA<|have⟨q50,h⟩:=h;bT r40 q50 h
    refine aJ 45 (bne_iff_ne.mpr c48)<|ar 16<|eH 2 [11,13,45] [(46,vi ac),(47,vi z)]<|have⟨q52,h⟩:=h;eQ 3 (vi ac) q52<|λav e51=>have h:=h av e51;kb [4,46] []<|have⟨q54,h⟩:=h;eQ 24 (vi z) q54<|λa6 e53=>have h:=h a6 e53;⟨[],pk,?_⟩
    refine ym<|zx ?_
    show At _ _ _ _ _ (roundPost _ _ _ .ret)
    exact have⟨q55,h⟩:=h;vn r40 q55 h
   clear h y43
   rintro _ a7 (⟨q56,h⟩ | ⟨q56,h⟩)
   ·refine .inl ⟨q56,λai e59=>?_⟩
    exact have h:=h ai e59;kB (ah.size::ms) rfl<|zP [38] []<|aA<|aA<|aC<|nx 17<|eT 2 [32] [(32,vi (zY (p+1)))]<|lY (mk:=(λs_=>s_.2)) (I:=(λs_ H=>az s_.1 s_.2 H)) (μ:=(λs_ H=>m29 s_.1 s_.2 H)) (s:=(_,_)) (((zY (p+1)),(ah.size::ms)):Int×(List Nat)) sk h
   refine .inr ⟨_,q56,λai e59=>?_⟩
   refine have h:=h ai e59;kB (ah.size::ms) rfl<|zP [38] []<|ue rfl ?_
   show At _ _ _ _ _ (Q .ret)
   refine lk (fn:=f78) (ah.size::ms) hQ (Shut.mono (λbi h=>?_) h)
   exact have⟨r,q57,bk,q58,h⟩:=h;⟨[vi r,vi bk],(show bS _ _ _ [.cell 4 3,.cell 5 24] _ from .cell (by kernel_rfl) (gG (λ_=>by kernel_rfl) q57) (.cell (by kernel_rfl) (gG (λ_=>by kernel_rfl) q58) (.nil))),h⟩
  refine aK 33 (zQ c36)<|zk 2<|aB<|aB<|aN<|aC<|ge<|ar 18<|eH 2 [1,30,31,32,33] [(49,vp d),(50,vs e j f)]<|zt 51 [49,50] h λaf n q bt h=>eT 2 [] [(52,vi n),(53,vi 0)]<|o0 6<|have⟨a4,m62,i60,i61⟩:=h;bJ (x:=K61) (σ:=Int) (λs_=> [(0,vp d),(4,vp (pa b)),(5,vp (pa hv)),(6,vp (pa m)),(51,vs af n q),(52,vi n),(53,vi s_)]) (λs_ H=>a4 s_ H) (λs_ H=>m62 s_ H) (0:Int) (by kernel_rfl) i60 sk ?_
  rintro o H29 i62
  have h:=i61 o H29 i62
  refine kT [(0,vp d),(4,vp (pa b)),(5,vp (pa hv)),(6,vp (pa m)),(51,vs af n q),(52,vi n),(53,vi o)]<|ar 19<|eT 1 [] [(54,.bool (decide (o< (n:Int))))]<|ge<|qx h (λc63 h=>?_) (λc63 h=>?_)
  ·refine aJ 54 (zX c63)<|kd<|ge<|o0 7<|ar 20<|yA [54] [] ?_
   obtain⟨u,rfl,q65,hc⟩:=h
   refine yp (some 55) 32 28 1 u n q .i64 o underlying32 q65.1 q65.2 [51] [(51,vs (some u) n q),(55,Vq (u.add (Int.toNat o*1)))]<|have⟨ag,q66,h⟩:=hc;hH 56 28 q66 [55]<|eT 1 [56] [(15,vu ag)]<|ar 21<|eH 1 [15] [(57,vu ag)]<|have⟨am,q67,h⟩:=h;hH 58 149 q67 []<|sa 59 [57,58] h λy aq h=>eT 1 [59] [(16,vi y)]<|ar 22<|eT 2 [] [(61,.bool (y !=0))]<|qx h (λc68 h=>?_) (λc68 h=>?_)
   ·exact aK 61 (bne_eq_false_iff_eq.mpr c68)<|yR<|aA<|aC<|nx 24<|eT 2 [16,53,61] [(53,vi (zY (o+1)))]<|aR ((zY (o+1)):Int) sk h
   refine aJ 61 (bne_iff_ne.mpr c68)<|ar 23<|eH 1 [0,6,16,51,52,53,61] [(62,vi y)]<|have⟨q71,h⟩:=h;eQ 3 (vi (-1)) q71<|λau e70=>have h:=h au e70;kb [] []<|have⟨q73,h⟩:=h;eQ 24 (vi y) q73<|λbf e72=>have h:=h bf e72;kb [62] []<|ym<|zx ?_
   show At _ _ _ _ _ (Q .ret)
   refine lk (fn:=f78) (ms) hQ (Shut.mono (λbb h=>?_) h)
   exact have⟨bl,q74,bg,q75,h⟩:=h;⟨[vi bl,vi bg],(show bS _ _ _ [.cell 4 3,.cell 5 24] _ from .cell (by kernel_rfl) (gG (λ_=>by kernel_rfl) q74) (.cell (by kernel_rfl) (gG (λ_=>by kernel_rfl) q75) (.nil))),h⟩
  refine aK 54 (zQ c63)<|zk 6<|aB<|aB<|aN<|aC<|ar 25<|eH 1 [0,6,51,52,53,54] [(64,vp d)]<|yD 65 [64] h λra rb a9 h=>eH 2 [65] [(66,vi ra),(67,vi rb)]<|have⟨q77,h⟩:=h;eQ 3 (vi ra) q77<|λay e76=>have h:=h ay e76;kb [66] []<|have⟨q79,h⟩:=h;eQ 24 (vi rb) q79<|λba e78=>have h:=h ba e78;kb [67] []<|ym<|zx ?_
  show At _ _ _ _ _ (Q .ret)
  refine lk (fn:=f78) (ms) hQ (Shut.mono (λbe h=>?_) h)
  exact have⟨bm,q80,bc,q81,h⟩:=h;⟨[vi bm,vi bc],(show bS _ _ _ [.cell 4 3,.cell 5 24] _ from .cell (by kernel_rfl) (gG (λ_=>by kernel_rfl) q80) (.cell (by kernel_rfl) (gG (λ_=>by kernel_rfl) q81) (.nil))),h⟩
 refine .inr ⟨_,q32,λaj e84=>?_⟩
 refine have h:=h aj e84;kB (H6.size::[]) rfl<|zP [19] []<|ue rfl ?_
 show At _ _ _ _ _ (Q .ret)
 refine lk (fn:=f78) (H6.size::[]) hQ (Shut.mono (λbd h=>?_) h)
 exact have⟨bh,q82,bj,q83,h⟩:=h;⟨[vi bh,vi bj],(show bS _ _ _ [.cell 4 3,.cell 5 24] _ from .cell (by kernel_rfl) (gG (λ_=>by kernel_rfl) q82) (.cell (by kernel_rfl) (gG (λ_=>by kernel_rfl) q83) (.nil))),h⟩
variable{H:zV}{R:zv}{d j:zW}{i:Int}
namespace jt
def K0:=Func.code f83
def K2:=cb K0
def K4:=cb K2
def K6:=cb K4
def K8:=cb K6
def K9:=ca K8
def zu:=cb K8
def zd:=cb K9
def Ad:=ca zd
def zG:=ca Ad
def Aw:=ca zu
def Am:=cb Aw
def AK:=ca Am
def zI:=ca AK
def zN:=cb zI
def AR:=ca zN
def Bk:=ca AR
def AJ:=ca Bk
def Ao:=cb Bk
def As:=ca Ao
def AX:=ca As
def AZ:=cb As
end jt
def jt.pt(hv n:zW)(d m:Nat)(H:zV)(R:zv):Prop:=
 ∀b H1,b=H.size->H1=H.push (.cells #[vp hv] 23)->
 ∀a0 H2,a0=H1.size->H2=H1.push (.map #[] 0)->
 ∀j H3,j=H2.size->H3=H2.push (.cells #[.map none] 149)->
 (aH H3 (ad j) 0 1)/\ ∀H4,H4=aP H3 (ad j) [.map (some a0)] 0->
 ∀f H5,f=H4.size->H5=H4.push (.cells #[VN] 32)->
 ∀e H6,e=H5.size->H6=H5.push (.cells #[.nilFunc] 198)->
 (aH H6 (ad e) 0 1)/\ ∀H7,H7=aP H6 (ad e) [.func (.func 123) #[] #[Vq (ad b),Vq (ad j),Vq (ad f)]] 0->
 ∃(bg:zw) (m15:Int->zV->Nat),bg 0 H7/\ ∀p H8,bg p H8->
 if p< (d:Int)then(
 ∃o,n=some o/\
 yZ p d/\
 ∃x,hat H8 (o.add (Int.toNat p*1))=some (vu x)/\
 ∃a7,hat H8 (ad e)=some (a7)/\
 FC prog a7 #[vu x] H8 (λ_ H9=>
 (bg (zY (p+1)) H9/\m15 (zY (p+1)) H9<m15 p H8)))
 else
 ∀aq H10,aq=H8.size->H10=H8.push (.cells #[vi 0] 3)->
 (aH H10 (ad aq) 0 1)/\ ∀bi,bi=aP H10 (ad aq) [vi 0] 0->
 ∃(bc:zW->(List Nat)->zV->Prop) (m32:zW->(List Nat)->zV->Nat),bc (some (ad aq)) ([]) bi/\ ∀(i:zW) (ms:List Nat) (H12:zV),bc i ms H12->
 ∃iA,i=some iA/\
 ∃av,hat H12 iA=some (vi av)/\
 ∃xB xN xC,hat H12 (ad f)=some (vs xB xN xC)/\
 if av< (xN:Int)then(
 ∃au,hat H12 (ad b)=some (vp au)/\
 ∃bh ai am,hat H12 (ad f)=some (vs bh ai am)/\
 ∃ae,hat H12 iA=some (vi ae)/\
 ∃u,bh=some u/\
 yZ ae ai/\
 ∃a6,hat H12 (u.add (Int.toNat ae*1))=some (vu a6)/\
 bQ.C au a6 H12 (λa5 bb=>a5=a5/\
 ∀(rc:LoopState->Option Code->Obj) (lp:Nat) (H14:zV),lp=bb.size+1->H14=(bb.push (.deferred (some []))).push (rc .ready none)->
 ∀vY,(∀(q:Int) (x_9:Int) (H15:zV) (vRy:zv),H15[lp]?=some (rc .ready none)->
 (H15[lp]?=some (rc .ready none)/\ ∀a9,a9=aL H15 lp (rc .busy none)->
 ∃a4 al aw,hat a9 (ad f)=some (vs a4 al aw)/\
 ∃y,hat a9 iA=some (vi y)/\
 ∃ao,a4=some ao/\
 yZ y al/\
 ∃a2,hat a9 (ao.add (Int.toNat y*1))=some (vu a2)/\
 cK.C a2 a9 (λbm a8=> ∃ap,bm=vi ap/\
 if ap=2 then(
 ∃a3 aj ay,hat a8 (ad f)=some (vs a3 aj ay)/\
 ∃z,hat a8 iA=some (vi z)/\
 ∃ak,a3=some ak/\
 yZ z aj/\
 ∃a1,hat a8 (ak.add (Int.toNat z*1))=some (vu a1)/\
 eV.C a1 a8 (λbo be=> ∃an,bo=vi an/\
 if q>an then(
 ∃az,hat be (ad e)=some (az)/\
 FC prog az #[vu x_9] be (λ_ bl=>
 bl[lp]?=some (rc .busy none)/\
 vRy VT (aL bl lp (rc .ready none))))
 else
 be[lp]?=some (rc .busy none)/\
 vRy VT (aL be lp (rc .ready none))))
 else
 ∃ax,hat a8 (ad e)=some (ax)/\
 FC prog ax #[vu x_9] a8 (λ_ bj=>
 bj[lp]?=some (rc .busy none)/\
 vRy VT (aL bj lp (rc .ready none)))))->
 FC prog vY #[vi q,vu x_9] H15 vRy)->
 FE prog a5 #[vY] H14 (λ_ bk=>
 (bk[lp]?=some (rc .ready none)/\ ∀bd,bd=aL bk lp (rc .exhausted none)->
 ∃ah,hat bd iA=some (vi ah)/\
 ∀r H23,r=bd.size->H23=bd.push (.cells #[vi 0] 3)->
 (aH H23 (ad r) 0 1)/\ ∀ba,ba=aP H23 (ad r) [vi ah] 0->
 ∃ag,hat ba (ad r)=some (vi ag)/\
 (aH ba (ad r) 0 1)/\ ∀bf,bf=aP ba (ad r) [vi (zY (ag+1))] 0->
 (bc (some (ad r)) (bb.size::ms) bf/\m32 (some (ad r)) (bb.size::ms) bf<m32 i ms H12)))))
 else
 ∃aa ac ab,hat H12 (ad f)=some (vs aa ac ab)/\
 ∃af,hat H12 (ad j)=some (.map af)/\
 Shut (ms) H12 (λbn=>
 R (.tuple #[vs aa ac ab,.map af]) bn)
theorem jt.link{n m:Nat}(h:pt d j n m H R):C d j n m H R:=by
 refine p0 K0 61 func83 ?_
 intro w0 Q hQ
 unfold pt zY at h
 refine kT [(0,vp d),(1,vs j n m)]<|ar 0<|sv (some 2) (λb=>vp (pa b)) (.cells #[vp d] 23)<|λb H1 e1 e2=>have h:=h b H1 e1 e2;kb [0] [(2,vp (pa b))]<|eT 2 [] []<|ar 1<|sv (some 14) (λb=> .map (some b)) (.map #[] 0)<|λa0 H2 e3 e4=>have h:=h a0 H2 e3 e4;kb [] [(14,.map (some a0))]<|sv (some 6) (λb=>vp (pa b)) (.cells #[.map none] 149)<|λhv H3 e5 e6=>have h:=h hv H3 e5 e6;kb [] [(6,vp (pa hv))]<|have⟨q8,h⟩:=h;eQ 149 (.map (some a0)) q8<|λH4 e7=>have h:=h H4 e7;kb [14] []<|ym<|ar 2<|sv (some 7) (λb=>vp (pa b)) (.cells #[VN] 32)<|λf H5 e9 e10=>have h:=h f H5 e9 e10;kb [] [(7,vp (pa f))]<|ym<|ar 3<|eH 1 [] [(15,.func (.func 123) #[] #[vp (pa b),vp (pa hv),vp (pa f)])]<|sv (some 8) (λb=>vp (pa b)) (.cells #[.nilFunc] 198)<|λe H6 e11 e12=>have h:=h e H6 e11 e12;kb [] [(8,vp (pa e))]<|have⟨q14,h⟩:=h;eQ 198 (.func (.func 123) #[] #[vp (pa b),vp (pa hv),vp (pa f)]) q14<|λH7 e13=>have h:=h H7 e13;kb [15] []<|ym<|ge<|ar 4<|eT 3 [1] [(16,vs j n m),(17,vi n),(18,vi 0)]<|o0 0<|have⟨bg,m15,i15,i16⟩:=h;bJ (x:=zG) (σ:=Int) (λs_=> [(2,vp (pa b)),(6,vp (pa hv)),(7,vp (pa f)),(8,vp (pa e)),(16,vs j n m),(17,vi n),(18,vi s_)]) (λs_ H=>bg s_ H) (λs_ H=>m15 s_ H) (0:Int) (by kernel_rfl) i15 sk ?_
 rintro p H8 i17
 have h:=i16 p H8 i17
 refine kT [(2,vp (pa b)),(6,vp (pa hv)),(7,vp (pa f)),(8,vp (pa e)),(16,vs j n m),(17,vi n),(18,vi p)]<|ar 5<|eT 1 [] [(19,.bool (decide (p< (n:Int))))]<|ge<|qx h (λc18 h=>?_) (λc18 h=>?_)
 ·refine aJ 19 (zX c18)<|kd<|ge<|o0 1<|ar 6<|yA [19] [] ?_
  obtain⟨o,rfl,q20,ha⟩:=h
  refine yp (some 20) 32 28 1 o n m .i64 p underlying32 q20.1 q20.2 [16] [(16,vs (some o) n m),(20,Vq (o.add (Int.toNat p*1)))]<|have⟨x,q21,h⟩:=ha;hH 21 28 q21 [20]<|eT 1 [21] [(10,vu x)]<|nx 7 ?_
  obtain⟨a7,q22,h⟩:=h
  refine hH 22 198 q22 []<|eH 1 [10] [(23,vu x)]<|mR (some 24) a7 #[vu x] (λ_=>by kernel_rfl) h ?_;clear h
  exact λv H9 h=>kb [22,23] []<|zq<|aA<|aC<|nx 8<|eT 2 [18] [(18,vi (zY (p+1)))]<|aR ((zY (p+1)):Int) sk h
 refine aK 19 (zQ c18)<|zk 0<|aB<|aB<|aN<|aC<|ge<|ar 9<|yA [16,17,18,19] []<|sv (some 11) (λb=>vp (pa b)) (.cells #[vi 0] 3)<|λaq H10 e23 e24=>have h:=h aq H10 e23 e24;kb [] [(11,vp (pa aq))]<|have⟨q26,h⟩:=h;eQ 3 (vi 0) q26<|λbi e25=>have h:=h bi e25;kb [] []<|ym<|o0 2<|have⟨bc,m32,i27,i28⟩:=h;rx (x:=zI) (σ:=zW×(List Nat)) (λs_=> [(2,vp (pa b)),(6,vp (pa hv)),(7,vp (pa f)),(8,vp (pa e)),(11,vp s_.1)]) (λs_=>s_.2) (λs_ H=>bc s_.1 s_.2 H) (λs_ H=>m32 s_.1 s_.2 H) (((pa aq),([])):zW×(List Nat)) (by kernel_rfl) i27 sk ?_
 rintro⟨i,ms⟩ H12 i29
 have h:=i28 i ms H12 i29
 refine kT [(2,vp (pa b)),(6,vp (pa hv)),(7,vp (pa f)),(8,vp (pa e)),(11,vp i)]<|ge<|ar 10 ?_
 obtain⟨iA,rfl,av,q30,hb⟩:=h
 refine Af (some 26) 3 q30 [11] [(11,Vq iA),(26,vi av)]<|have⟨xB,xN,xC,q31,h⟩:=hb;hH 27 32 q31 []<|eT 2 [26,27] [(29,.bool (decide (av< (xN:Int))))]<|qx h (λc32 h=>?_) (λc32 h=>?_)
 ·refine aJ 29 (zX c32)<|kd<|ge<|o0 3<|ge ?_
  obtain⟨au,q34,bh,ai,am,q35,ae,q36,u,rfl,q37,a6,q38,hc⟩:=h
  refine yq 12 (Code.ops AJ) [(5,(ad b),[vp au]),(5,(ad f),[vs (some u) ai am]),(5,iA,[vi ae]),(5,(u.add (Int.toNat ae*1)),[vu a6])] 6 (bv 6 0) (show aE _ _ _ from⟨⟨q34,trivial⟩,⟨q35,trivial⟩,⟨q36,trivial⟩,⟨q38,trivial⟩,trivial⟩)<|zh 0 (some 32) (vp au) (bv 6 1) [(2,vp (pa b)),(6,vp (pa hv)),(7,vp (pa f)),(8,vp (pa e)),(11,vp (some iA)),(32,vp au)] (aQ 23 (vp (pa b))) (yY 5 yX)<|nc 1 33 (vs (some u) ai am) (bv 6 3) [] (aQ 32 (vp (pa f))) (yY 5 yQ)<|nc 2 34 (vi ae) (bv 6 7) [] (aQ 3 (vp (some iA))) (yY 5 yJ)<|nc 3 35 (vp (some (u.add (Int.toNat ae*1)))) (bv 6 15) [33,34] (bD 32 (vs (some u) ai am) (vi ae)) (λ_ w _ _ _=>dX (P:=prog) (t:=32) (elem:=28) (sz:=1) (a:=u) (len:=ai) (cap:=am) (k:=.i64) (i:=ae) underlying32 (λ_=>by kernel_rfl) q37.1 q37.2 w)<|nc 4 36 (vu a6) (bv 6 31) [35] (aQ 28 (vp (some (u.add (Int.toNat ae*1))))) (yY 5 yK)<|yx 5 (some 37) (bv 6 63) 117 #[vp au,vu a6] hc ?_;clear hc
  rintro a5 bb ⟨-,h⟩
  refine⟨[(2,vp (pa b)),(6,vp (pa hv)),(7,vp (pa f)),(8,vp (pa e)),(11,Vq iA),(37,a5)],pk,(show aE _ _ _ from⟨trivial,trivial,trivial,trivial,trivial⟩),?_⟩
  refine eP [(2,vp (pa b)),(6,vp (pa hv)),(7,vp (pa f)),(8,vp (pa e)),(11,Vq iA),(37,a5)] sk<|yz<|aC<|o0 4<|ls (g:=.tmp 37) (ps:= #[38,39]) (assign:=AX) (body:=AZ) (a5) (by kernel_rfl) (by kernel_rfl) (by kernel_rfl)<|λrc lp H14 r39 e40 e41 y42=>FE.mono (h rc lp H14 e40 e41 (.func (.yield lp) #[] #[]) ?_) ?_
  ·clear h
   refine λq x_9 H15 vRy q43 h=>y42 #[vi q,vu x_9] H15 vRy (by kernel_rfl) q43 (λw1x=>?_)
   refine kT [(2,vp (pa b)),(6,vp (pa hv)),(7,vp (pa f)),(8,vp (pa e)),(11,Vq iA),(37,a5),(38,vi q),(39,vu x_9)]<|ar 13<|eT 1 [2,6,37,38] [(12,vi q)]<|nx 14<|eH 1 [39] [(13,vu x_9)]<|zq<|have⟨q45,h⟩:=h;aC<|lr r39 q45<|λa9 e44=>have h:=h a9 e44;o0 5<|ar 15<|have⟨a4,al,aw,q46,h⟩:=h;hH 40 32 q46 []<|have⟨y,q47,h⟩:=h;hH 41 3 q47 [] ?_
   obtain⟨ao,rfl,q48,hd⟩:=h
   refine yp (some 42) 32 28 1 ao al aw .i64 y underlying32 q48.1 q48.2 [40,41] [(42,Vq (ao.add (Int.toNat y*1)))]<|have⟨a2,q49,h⟩:=hd;hH 43 28 q49 [42]<|sa 44 [43] h λap a8 h=>eH 2 [44] [(46,.bool (ap !=2))]<|qx h (λc50 h=>?_) (λc50 h=>?_)
   ·refine oo 46 (bne_eq_false_iff_eq.mpr c50)<|eH 1 [12] [(47,vi q)]<|have⟨a3,aj,ay,q52,h⟩:=h;hH 48 32 q52 [7]<|have⟨z,q53,h⟩:=h;hH 49 3 q53 [11] ?_
    obtain⟨ak,rfl,q54,he⟩:=h
    refine yp (some 50) 32 28 1 ak aj ay .i64 z underlying32 q54.1 q54.2 [48,49] [(50,Vq (ak.add (Int.toNat z*1)))]<|have⟨a1,q55,h⟩:=he;hH 51 28 q55 [50]<|sa 52 [51] h λan be h=>eT 2 [46,47,52] [(54,.bool (decide (q>an)))]<|qx h (λc56 h=>?_) (λc56 h=>?_)
    ·refine aJ 54 (zX c56)<|nx 16<|yA [54] [] ?_
     obtain⟨az,q58,h⟩:=h
     refine hH 55 198 q58 [8]<|eH 1 [13] [(56,vu x_9)]<|mR (some 57) az #[vu x_9] (λ_=>by kernel_rfl) h ?_;clear h
     refine λv_5 bl h=>⟨[],pk,?_⟩
     exact zq<|aA<|have⟨q59,h⟩:=h;bT r39 q59 h
    exact aK 54 (zQ c56)<|yR<|aA<|have⟨q60,h⟩:=h;bT r39 q60 h
   refine oo 46 (bne_iff_ne.mpr c50)<|eT 8 [7,11,12,46] [(54,VT)]<|wc 54<|nx 16<|yA [54] [] ?_
   obtain⟨ax,q61,h⟩:=h
   refine hH 55 198 q61 [8]<|eH 1 [13] [(56,vu x_9)]<|mR (some 57) ax #[vu x_9] (λ_=>by kernel_rfl) h ?_;clear h
   refine λv_6 bj h=>⟨[],pk,?_⟩
   exact zq<|aA<|have⟨q62,h⟩:=h;bT r39 q62 h
  clear h y42
  rintro _ bk (⟨q63,h⟩)
  refine .inl ⟨q63,λbd e72=>?_⟩
  exact have h:=h bd e72;kB (bb.size::ms) rfl<|kT [(2,vp (pa b)),(6,vp (pa hv)),(7,vp (pa f)),(8,vp (pa e)),(11,Vq iA)]<|aA<|aA<|aC<|ge<|ar 17<|have⟨ah,q64,h⟩:=h;hH 58 3 q64 [11]<|ym<|nx 18<|sv (some 11) (λb=>vp (pa b)) (.cells #[vi 0] 3)<|λr H23 e65 e66=>have h:=h r H23 e65 e66;kb [] [(11,vp (pa r))]<|have⟨q68,h⟩:=h;eQ 3 (vi ah) q68<|λba e67=>have h:=h ba e67;kb [58] []<|ym<|nx 11<|have⟨ag,q69,h⟩:=h;hH 30 3 q69 []<|eH 1 [30] [(31,vi (zY (ag+1)))]<|have⟨q71,h⟩:=h;eQ 3 (vi (zY (ag+1))) q71<|λbf e70=>have h:=h bf e70;kb [31] []<|ym<|lY (mk:=(λs_=>s_.2)) (I:=(λs_ H=>bc s_.1 s_.2 H)) (μ:=(λs_ H=>m32 s_.1 s_.2 H)) (s:=(_,_)) (((pa r),(bb.size::ms)):zW×(List Nat)) sk h
 refine aK 29 (zQ c32)<|zk 2<|aB<|aB<|aN<|aC<|ge<|qG 19<|have⟨aa,ac,ab,q73,h⟩:=h;BS (some 59) 32 q73 [(6,vp (pa hv)),(59,vs aa ac ab)]<|have⟨af,q74,h⟩:=h;m7 (some 60) 149 q74 [6] [(60,.map af)]<|u3 4 (vs aa ac ab) [59]<|u3 5 (.map af) [60]<|mW [(4,vs aa ac ab),(5,.map af)] sk<|Al<|zx ?_
 show At _ _ _ _ _ (Q .ret)
 refine lk (fn:=f83) (ms) hQ (Shut.mono (λbn h=>?_) h)
 exact⟨[vs aa ac ab,.map af],(show bS _ _ _ [.tmp 4,.tmp 5] _ from .tmp (by kernel_rfl) (.tmp (by kernel_rfl) (.nil))),h⟩
def fB.K0:=Func.code f115
def fB.pt(hv:zW)(H:zV)(R:zv):Prop:=
 ∀b H1,b=H.size->H1=H.push (.cells #[vp hv] 23)->
 R (.func (.func 136) #[] #[Vq (ad b)]) H1
theorem fB.link(h:pt d H R):C d H R:=by
 refine p0 K0 4 func115 ?_
 intro w0 Q hQ
 unfold pt at h
 refine kT [(0,vp d)]<|ar 0<|sv (some 1) (λb=>vp (pa b)) (.cells #[vp d] 23)<|λb H1 e1 e2=>have h:=h b H1 e1 e2;⟨[(1,vp (pa b))],pk,?_⟩
 exact eT 1 [] []<|ar 1<|hV 2 [2] [.func (.func 136) #[] #[vp (pa b)]] hQ h
def eV.K0:=Func.code f116
def eV.pt(wv:Int)(H:zV)(R:zv):Prop:=
 gH.C wv H (λv H1=> ∃ra rb,v=.tuple #[vi ra,.bool rb]/\
 R (vi ra) H1)
theorem eV.link(h:pt i H R):C i H R:=by
 refine p0 K0 11 func116 ?_
 intro w0 Q hQ
 unfold pt at h
 exact kT [(0,vu i)]<|ar 0<|eT 1 [] []<|ar 1<|u8 1 [(6,vu i)]<|zm 7 (λra rb=>[(7,.tuple #[vi ra,.bool rb])]) h λra rb H1 h=>u5 5 [(3,vi ra)]<|ar 2<|hV 2 [2] [vi ra] hQ h
def bQ.K0:=Func.code f117
def bQ.pt(hv:zW)(wv:Int)(H:zV)(R:zv):Prop:=
 ∀b H1,b=H.size->H1=H.push (.cells #[vp hv] 23)->
 ∀a H2,a=H1.size->H2=H1.push (.cells #[vu wv] 28)->
 R (.func (.func 138) #[] #[Vq (ad b),Vq (ad a)]) H2
theorem bQ.link(h:pt d i H R):C d i H R:=by
 refine p0 K0 6 func117 ?_
 intro w0 Q hQ
 unfold pt at h
 exact kT [(0,vp d),(1,vu i)]<|ar 0<|sv (some 2) (λb=>vp (pa b)) (.cells #[vp d] 23)<|λb H1 e1 e2=>have h:=h b H1 e1 e2;kb [0] [(2,vp (pa b))]<|sv (some 3) (λb=>vp (pa b)) (.cells #[vu i] 28)<|λa H2 e3 e4=>have h:=h a H2 e3 e4;kb [1] [(3,vp (pa a))]<|eT 1 [] []<|ar 1<|hV 2 [4] [.func (.func 138) #[] #[vp (pa b),vp (pa a)]] hQ h
def fI.K0:=Func.code f118
def fI.pt(wv:Int)(a:Option Nat)(H:zV)(R:zv):Prop:=
 cK.C wv H (λv H1=> ∃x,v=vi x/\
 if x=5 then(
 R (vi 1) H1)
 else
 if x=6 then(
 R (vi 1) H1)
 else
 if x=1 then(
 dV.C wv H1 (λae H2=> ∃q,ae=.bool q/\
 if q=true then(
 ∃mr,a=some mr/\
 ∃es cl ks,H2[mr]?=some (.map es cl)/\va (aY .u64) es.toList ks/\
 ∃n,(yl ks wv).getD (vi 0)=vi n/\
 if n=0 then(
 R (vi 18) H2)
 else
 dV.C wv H2 (λag H3=> ∃m,ag=.bool m/\
 if m=true then(
 R (vi 0) H3)
 else
 R (vi 1) H3))
 else
 dV.C wv H2 (λal H4=> ∃k,al=.bool k/\
 if k=true then(
 R (vi 0) H4)
 else
 R (vi 1) H4)))
 else
 if x=2 then(
 dV.C wv H1 (λaj H5=> ∃p,aj=.bool p/\
 if p=true then(
 ∃r,a=some r/\
 ∃t cl_2 ks_2,H5[r]?=some (.map t cl_2)/\va (aY .u64) t.toList ks_2/\
 ∃o,(yl ks_2 wv).getD (vi 0)=vi o/\
 if o=0 then(
 R (vi 18) H5)
 else
 dV.C wv H5 (λah H6=> ∃i,ah=.bool i/\
 if i=true then(
 R (vi 0) H6)
 else
 R (vi 1) H6))
 else
 dV.C wv H5 (λak H7=> ∃j,ak=.bool j/\
 if j=true then(
 R (vi 0) H7)
 else
 R (vi 1) H7)))
 else
 if x=3 then(
 dV.C wv H1 (λaf H8=> ∃g,af=.bool g/\
 if g=true then(
 ∃s,a=some s/\
 ∃u cl_3 ks_3,H8[s]?=some (.map u cl_3)/\va (aY .u64) u.toList ks_3/\
 ∃f,(yl ks_3 wv).getD (vi 0)=vi f/\
 if f=0 then(
 R (vi 18) H8)
 else
 dV.C wv H8 (λai H9=> ∃e,ai=.bool e/\
 if e=true then(
 R (vi 0) H9)
 else
 R (vi 1) H9))
 else
 dV.C wv H8 (λac aa=> ∃d,ac=.bool d/\
 if d=true then(
 R (vi 0) aa)
 else
 R (vi 1) aa)))
 else
 dV.C wv H1 (λy ab=> ∃b,y=.bool b/\
 if b=true then(
 R (vi 0) ab)
 else
 R (vi 1) ab))
theorem fI.link{a:Option Nat}(h:pt i a H R):C i a H R:=by
 refine p0 K0 25 func118 ?_
 intro w0 Q hQ
 unfold pt at h
 refine kT [(0,vu i),(1,.map a)]<|ar 0<|eT 1 [] []<|ge<|ar 1<|eH 1 [] [(5,vu i)]<|sa 6 [5] h λx H1 h=>ym<|o0 0<|ge<|ar 2<|eT 2 [] [(7,.bool (x==5))]<|qx h (λc1 h=>?_) (λc1 h=>?_)
 ·exact vb 7 (zK c1)<|wc 7<|kd<|wc 7<|ar 4<|hV 1 [4] [vi 1] hQ h
 refine vb 7 (zJ c1)<|yn 7<|nx 3<|eT 2 [7] [(7,.bool (x==6))]<|qx h (λc3 h=>?_) (λc3 h=>?_)
 ·exact aJ 7 (zK c3)<|ar 4<|hV 1 [4] [vi 1] hQ h
 refine aK 7 (zJ c3)<|ge<|ar 5<|eT 2 [7] [(10,.bool (x==1))]<|qx h (λc5 h=>?_) (λc5 h=>?_)
 ·refine vb 10 (zK c5)<|wc 10<|kd<|wc 10<|ar 8<|eH 1 [6,10] [(14,vu i)]<|sa 15 [14] h λq H2 h=>eH 1 [15] [(16,.bool q)]<|qx h (λc7 h=>?_) (λc7 h=>?_)
  ·refine oo 16 c7<|eH 2 [1] [(17,.map a),(18,vu i)] ?_
   obtain⟨mr,rfl,es,cl,ks,q9,q10,n,e16,ha⟩:=h
   have h:=ha
   refine yI 19 (jP 149 (.map (some mr)) (vu i) false) (vi n) (λw hw=>(hX (kk:=(aY .u64)) (z:=vi 0) underlying149 underlying28 (λ_=>by kernel_rfl) (by rw[hw];exact q9) q10 false).trans (by simp only[if_true,Bool.false_eq_true,if_false,e16])) [17,18]<|eT 2 [16,19] [(21,.bool (n==0))] ?_
   revert h;refine AV (λc12 h=>?_) (λc12 h=>?_)
   ·exact aJ 21 (zK c12)<|ar 9<|hV 1 [4] [vi 18] hQ h
   refine aK 21 (zJ c12)<|yR<|aA<|aC<|ge<|ar 10<|u8 1 [(22,vu i)]<|yT 23 (λm=>[(23,.bool m)]) h λm H3 h=>u5 1 [(24,.bool (!m))]<|qx h (λc14 h=>?_) (λc14 h=>?_)
   ·exact aK 24 (congrArg Bool.not (c14))<|kd<|ar 12<|hV 1 [4] [vi 0] hQ h
   exact aJ 24 (congrArg Bool.not (zZ c14))<|ar 11<|hV 1 [4] [vi 1] hQ h
  refine oo 16 (zZ c7)<|eT 5 [1,16] [(21,VF)]<|yn 21<|yR<|aA<|aC<|ge<|ar 10<|u8 1 [(22,vu i)]<|yT 23 (λk=>[(23,.bool k)]) h λk H4 h=>u5 1 [(24,.bool (!k))]<|qx h (λc18 h=>?_) (λc18 h=>?_)
  ·exact aK 24 (congrArg Bool.not (c18))<|kd<|ar 12<|hV 1 [4] [vi 0] hQ h
  exact aJ 24 (congrArg Bool.not (zZ c18))<|ar 11<|hV 1 [4] [vi 1] hQ h
 refine vb 10 (zJ c5)<|yn 10<|ar 6<|eT 2 [10] [(10,.bool (x==2))]<|qx h (λc20 h=>?_) (λc20 h=>?_)
 ·refine vb 10 (zK c20)<|wc 10<|kd<|wc 10<|ar 8<|eH 1 [6,10] [(14,vu i)]<|sa 15 [14] h λp H5 h=>eH 1 [15] [(16,.bool p)]<|qx h (λc22 h=>?_) (λc22 h=>?_)
  ·refine oo 16 c22<|eH 2 [1] [(17,.map a),(18,vu i)] ?_
   obtain⟨r,rfl,t,cl_2,ks_2,q24,q25,o,e31,hb⟩:=h
   have h:=hb
   refine yI 19 (jP 149 (.map (some r)) (vu i) false) (vi o) (λw hw=>(hX (kk:=(aY .u64)) (z:=vi 0) underlying149 underlying28 (λ_=>by kernel_rfl) (by rw[hw];exact q24) q25 false).trans (by simp only[if_true,Bool.false_eq_true,if_false,e31])) [17,18]<|eT 2 [16,19] [(21,.bool (o==0))] ?_
   revert h;refine AV (λc27 h=>?_) (λc27 h=>?_)
   ·exact aJ 21 (zK c27)<|ar 9<|hV 1 [4] [vi 18] hQ h
   refine aK 21 (zJ c27)<|yR<|aA<|aC<|ge<|ar 10<|u8 1 [(22,vu i)]<|yT 23 (λwv=>[(23,.bool wv)]) h λwv H6 h=>u5 1 [(24,.bool (!wv))]<|qx h (λc29 h=>?_) (λc29 h=>?_)
   ·exact aK 24 (congrArg Bool.not (c29))<|kd<|ar 12<|hV 1 [4] [vi 0] hQ h
   exact aJ 24 (congrArg Bool.not (zZ c29))<|ar 11<|hV 1 [4] [vi 1] hQ h
  refine oo 16 (zZ c22)<|eT 5 [1,16] [(21,VF)]<|yn 21<|yR<|aA<|aC<|ge<|ar 10<|u8 1 [(22,vu i)]<|yT 23 (λj=>[(23,.bool j)]) h λj H7 h=>u5 1 [(24,.bool (!j))]<|qx h (λc33 h=>?_) (λc33 h=>?_)
  ·exact aK 24 (congrArg Bool.not (c33))<|kd<|ar 12<|hV 1 [4] [vi 0] hQ h
  exact aJ 24 (congrArg Bool.not (zZ c33))<|ar 11<|hV 1 [4] [vi 1] hQ h
 refine vb 10 (zJ c20)<|yn 10<|nx 7<|eT 2 [6,10] [(10,.bool (x==3))]<|qx h (λc35 h=>?_) (λc35 h=>?_)
 ·refine aJ 10 (zK c35)<|ar 8<|eH 1 [10] [(14,vu i)]<|sa 15 [14] h λg H8 h=>eH 1 [15] [(16,.bool g)]<|qx h (λc37 h=>?_) (λc37 h=>?_)
  ·refine oo 16 c37<|eH 2 [1] [(17,.map a),(18,vu i)] ?_
   obtain⟨s,rfl,u,cl_3,ks_3,q39,q40,f,e46,hc⟩:=h
   have h:=hc
   refine yI 19 (jP 149 (.map (some s)) (vu i) false) (vi f) (λw hw=>(hX (kk:=(aY .u64)) (z:=vi 0) underlying149 underlying28 (λ_=>by kernel_rfl) (by rw[hw];exact q39) q40 false).trans (by simp only[if_true,Bool.false_eq_true,if_false,e46])) [17,18]<|eT 2 [16,19] [(21,.bool (f==0))] ?_
   revert h;refine AV (λc42 h=>?_) (λc42 h=>?_)
   ·exact aJ 21 (zK c42)<|ar 9<|hV 1 [4] [vi 18] hQ h
   refine aK 21 (zJ c42)<|yR<|aA<|aC<|ge<|ar 10<|u8 1 [(22,vu i)]<|yT 23 (λe=>[(23,.bool e)]) h λe H9 h=>u5 1 [(24,.bool (!e))]<|qx h (λc44 h=>?_) (λc44 h=>?_)
   ·exact aK 24 (congrArg Bool.not (c44))<|kd<|ar 12<|hV 1 [4] [vi 0] hQ h
   exact aJ 24 (congrArg Bool.not (zZ c44))<|ar 11<|hV 1 [4] [vi 1] hQ h
  refine oo 16 (zZ c37)<|eT 5 [1,16] [(21,VF)]<|yn 21<|yR<|aA<|aC<|ge<|ar 10<|u8 1 [(22,vu i)]<|yT 23 (λd=>[(23,.bool d)]) h λd aa h=>u5 1 [(24,.bool (!d))]<|qx h (λc48 h=>?_) (λc48 h=>?_)
  ·exact aK 24 (congrArg Bool.not (c48))<|kd<|ar 12<|hV 1 [4] [vi 0] hQ h
  exact aJ 24 (congrArg Bool.not (zZ c48))<|ar 11<|hV 1 [4] [vi 1] hQ h
 refine aK 10 (zJ c35)<|yR<|aA<|aC<|ge<|ar 10<|u8 1 [(22,vu i)]<|yT 23 (λb=>[(23,.bool b)]) h λb ab h=>u5 1 [(24,.bool (!b))]<|qx h (λc50 h=>?_) (λc50 h=>?_)
 ·exact aK 24 (congrArg Bool.not (c50))<|kd<|ar 12<|hV 1 [4] [vi 0] hQ h
 exact aJ 24 (congrArg Bool.not (zZ c50))<|ar 11<|hV 1 [4] [vi 1] hQ h
namespace iG
def K0:=Func.code f119
def K2:=cb K0
def K4:=cb K2
def K6:=cb K4
def zG:=cb K6
def Bb:=ca zG
def zT:=cb Bb
def Ac:=ca zT
def zL:=ca Ac
end iG
def iG.pt(hv m:zW)(o n:Nat)(H:zV)(R:zv):Prop:=
 aW.C m o n H (λv H1=> ∃xB xN xC,v=vs xB xN xC/\
 fE hv (
 R (vs xB xN xC) H1) (λs=>
 ∃y j aa,hat H1 (s.add 1)=some (vs y j aa)/\
 bI 1 28 8 [vu 0] xB xN xC y j H1 (λap z H2=>
 ∃p d e,hat H2 (s.add 2)=some (vs p d e)/\
 ∃(ae:zW->Nat->Nat->zw) (m21:zW->Nat->Nat->Int->zV->Nat),ae ap (xN+j) z 0 H2/\ ∀lB lN lC s24 H3,ae lB lN lC s24 H3->
 if s24< (d:Int)then(
 ∃g,p=some g/\
 yZ s24 d/\
 ∃q f,aM H3 (g.add (Int.toNat s24*2)) 0 [vu q,vu f]/\
 ∀b H4,b=H3.size->H4=H3.push (.cells #[vu 0,vu 0] 36)->
 (aH H4 (ad b) 0 2)/\ ∀H5,H5=aP H4 (ad b) [vu q,vu f] 0->
 ∃x,hat H5 (ad b)=some (vu x)/\
 ∃ac,hat H5 ((ad b).add 1)=some (vu ac)/\
 ∀ab H6,ab=H5.size->H6=H5.push (.cells #[vu x,vu ac] 28)->
 bI 1 28 8 [vu 0] lB lN lC (some (ad ab)) 2 H6 (λu r H7=>
 (ae u (lN+2) r (zY (s24+1)) H7/\m21 u (lN+2) r (zY (s24+1)) H7<m21 lB lN lC s24 H3)))
 else
 R (vs lB lN lC) H3)))
theorem iG.link{o n:Nat}(h:pt d j o n H R):C d j o n H R:=by
 refine p0 K0 37 func119 ?_
 intro w0 Q hQ
 unfold pt zY at h
 refine kT [(0,vp d),(1,vs j o n)]<|ar 0<|eT 1 [] []<|ar 1<|eH 1 [1] [(8,vs j o n)]<|zt 9 [8] h λxB xN xC H1 h=>eT 1 [9] [(5,vs xB xN xC)]<|ge<|ar 2<|eH 1 [] [(10,vp d)] ?_
 rcases d with _ | s
 ·rw[onPtr_none]at h
  exact eT 1 [0,10] [(0,vp none),(11,VT)]<|wc 11<|ar 3<|hV 2 [4] [vs xB xN xC] hQ h
 rw[onPtr_some]at h
 refine eT 1 [0,10] [(0,Vq s),(11,VF)]<|yn 11<|kd<|ar 4<|eH 4 [5,11] [(13,vs xB xN xC),(16,Vq (s.add 1))] ?_
 obtain⟨y,hv,aa,q1,h⟩:=h
 refine hH 17 32 q1 [16]<|yO (some 18) (cG #[32,32] 32 #[vs xB xN xC,vs y hv aa]) _ (λ_=>by kernel_rfl) (bK (T:=28) (sz:=1) (bytes:=8) (zero:=(vu 0:Value)) underlying32 underlying32 rfl (show prog.info? 28=some t28 from by kernel_rfl) (by kernel_rfl) (by kernel_rfl) (by decide) (by kernel_rfl) (by first | exact h | (simpa only[Value.cells,List.toList_toArray]using h))) ?_;clear h
 rintro _ H2 ⟨ap,z,rfl,h⟩
 refine kb [13,17] [(18,vs ap (xN+hv) z)]<|eT 1 [18] [(5,vs ap (xN+hv) z)]<|ge<|ar 5<|eH 3 [0] [(21,Vq (s.add 2))]<|have⟨p,m,e,q2,h⟩:=h;hH 22 31 q2 [21]<|eT 2 [] [(23,vi m),(24,vi 0)]<|o0 0<|have⟨ae,m21,i3,i4⟩:=h;bJ (x:=zL) (σ:=zW×Nat×Nat×Int) (λs_=> [(5,vs s_.1 s_.2.1 s_.2.2.1),(22,vs p m e),(23,vi m),(24,vi s_.2.2.2)]) (λs_ H=>ae s_.1 s_.2.1 s_.2.2.1 s_.2.2.2 H) (λs_ H=>m21 s_.1 s_.2.1 s_.2.2.1 s_.2.2.2 H) ((ap,(xN+hv),z,0):zW×Nat×Nat×Int) (by kernel_rfl) i3 sk ?_
 rintro⟨lB,lN,lC,s24⟩ H3 i5
 have h:=i4 lB lN lC s24 H3 i5
 refine kT [(5,vs lB lN lC),(22,vs p m e),(23,vi m),(24,vi s24)]<|ar 6<|eT 1 [] [(25,.bool (decide (s24< (m:Int))))]<|ge<|qx h (λc6 h=>?_) (λc6 h=>?_)
 ·refine aJ 25 (zX c6)<|kd<|ge<|o0 1<|ar 7<|yA [25] [] ?_
  obtain⟨g,rfl,q8,ha⟩:=h
  refine yp (some 26) 31 36 2 g m e .i64 s24 underlying31 q8.1 q8.2 [22] [(22,vs (some g) m e),(26,Vq (g.add (Int.toNat s24*2)))]<|have⟨q,f,q9,h⟩:=ha;zr 27 36 q9 [26]<|sv (some 7) (λb=>vp (pa b)) (.cells #[vu 0,vu 0] 36)<|λb H4 e10 e11=>have h:=h b H4 e10 e11;kb [] [(7,vp (pa b))]<|have⟨q13,h⟩:=h;fK 36 [vu q,vu f] q13<|λH5 e12=>have h:=h H5 e12;kb [27] []<|ym<|nx 8<|eH 2 [5] [(28,vs lB lN lC),(29,vp (pa b))]<|have⟨x,q14,h⟩:=h;hH 30 28 q14 [29]<|eH 1 [7] [(31,Vq ((ad b).add 1))]<|have⟨ac,q15,h⟩:=h;hH 32 28 q15 [31]<|sv (some 33) (λb=>vs (pa b) 2 2) (.cells #[vu x,vu ac] 28) ?_
  intro ab H6 e16 e17
  replace h:=h ab H6 e16 e17
  refine kb [30,32] [(33,vs (pa ab) 2 2)]<|yO (some 34) (cG #[32,32] 32 #[vs lB lN lC,vs (pa ab) 2 2]) _ (λ_=>by kernel_rfl) (bK (T:=28) (sz:=1) (bytes:=8) (zero:=(vu 0:Value)) underlying32 underlying32 rfl (show prog.info? 28=some t28 from by kernel_rfl) (by kernel_rfl) (by kernel_rfl) (by decide) (by kernel_rfl) (by first | exact h | (simpa only[Value.cells,List.toList_toArray]using h))) ?_;clear h
  rintro _ H7 ⟨u,r,rfl,h⟩
  exact kb [28,33] [(34,vs u (lN+2) r)]<|eH 1 [34] [(5,vs u (lN+2) r)]<|zq<|aA<|aC<|nx 9<|eT 2 [24] [(24,vi (zY (s24+1)))]<|aR ((u,(lN+2),r,(zY (s24+1))):zW×Nat×Nat×Int) sk h
 exact aK 25 (zQ c6)<|zk 0<|aB<|aB<|aN<|aC<|ar 10<|hV 2 [4] [vs lB lN lC] hQ h
namespace jq
def K0:=Func.code f120
def K2:=cb K0
def K4:=cb K2
def zd:=cb K4
def Ad:=ca zd
def Ap:=cb Ad
def zC:=ca Ap
def zT:=ca zC
def zL:=cb zT
def Ak:=cb zL
def Ax:=ca Ak
def Ag:=ca Ax
def Am:=cb Ag
def zI:=cb Am
def zN:=cb zI
def Bf:=ca zN
def AD:=ca Bf
end jq
def jq.pt(hv:zW)(H:zV)(R:zv):Prop:=
 iU.C hv H (λv H1=> ∃x,v=.bool x/\
 if x=true then(
 R (.tuple #[vi 0,vi 0]) H1)
 else
 ∃e,hv=some e/\
 ∃az,hat H1 e=some (vp az)/\
 fC.C az H1 (λbc H2=> ∃m,bc=vp m/\
 ∃a6,hat H2 e=some (vp a6)/\
 ∃a8,a6=some a8/\
 ∃a3,hat H2 a8=some (vp a3)/\
 ∃a9,a3=some a9/\
 ∃ay,hat H2 a9=some (vp ay)/\
 cF.C ay none 0 0 H2 (λbd H3=> ∃xB xN xC,bd=vs xB xN xC/\
 ∃(a7:zw) (m19:Int->zV->Nat),a7 0 H3/\ ∀f H4,a7 f H4->
 if f< (xN:Int)then(
 ∃j,xB=some j/\
 yZ f xN/\
 ∃g,hat H4 (j.add (Int.toNat f*1))=some (vi g)/\
 ∃a0,hat H4 e=some (vp a0)/\
 ∃a2,a0=some a2/\
 ∃a1,hat H4 a2=some (vp a1)/\
 ∃a5,a1=some a5/\
 ∃ao,hat H4 a5=some (vp ao)/\
 bA.C ao g H4 (λbg H5=> ∃am aj aq af ae ac ab rb,bg=.tuple #[.agg #[vi am,vi aj,vi aq,vi af,vi ae,vi ac,vi ab],.bool rb]/\
 ∀b H6,b=H5.size->H6=H5.push (.cells #[vi 0,vi 0,vi 0,vi 0,vi 0,vi 0,vi 0] 108)->
 (aH H6 (ad b) 0 7)/\ ∀H7,H7=aP H6 (ad b) [vi am,vi aj,vi aq,vi af,vi ae,vi ac,vi ab] 0->
 ∃aa s u z,aM H7 ((ad b).add 3) 0 [vi aa,vi s,vi u,vi z]/\
 ∃(a4:zw) (m36:Int->zV->Nat),a4 0 H7/\ ∀d H8,a4 d H8->
 if d<4 then(
 ∃y,((0<=d/\d< (4:Int))/\(#[vi aa,vi s,vi u,vi z]:Array Value)[Int.toNat d]?=some (vi y))/\
 dJ.C m g d H8 (λbf H9=> ∃bb,bf=vi bb/\
 ∃ai,m=some ai/\
 ∃ax,hat H9 ai=some (vp ax)/\
 ∃aw,ax=some aw/\
 ∃ap,hat H9 aw=some (vp ap)/\
 bA.C ap g H9 (λbe ba=> ∃ah ag al p r q o au,be=.tuple #[.agg #[vi ah,vi ag,vi al,vi p,vi r,vi q,vi o],.bool au]/\
 ∀ak H11,ak=ba.size->H11=ba.push (.cells #[vi 0,vi 0,vi 0,vi 0,vi 0,vi 0,vi 0] 108)->
 (aH H11 (ad ak) 0 7)/\ ∀av,av=aP H11 (ad ak) [vi ah,vi ag,vi al,vi p,vi r,vi q,vi o] 0->
 yZ d 4/\
 ∃an,hat av (((ad ak).add 3).add (Int.toNat d*1))=some (vi an)/\
 if y>an then(
 R (.tuple #[vi (zY ((zY (g*64))+(zY (d*16)))),vi 4]) av)
 else
 (a4 (zY (d+1)) av/\m36 (zY (d+1)) av<m36 d H8))))
 else
 (a7 (zY (f+1)) H8/\m19 (zY (f+1)) H8<m19 f H4)))
 else
 R (.tuple #[vi 0,vi 0]) H4)))
theorem jq.link(h:pt d H R):C d H R:=by
 refine p0 K0 86 func120 ?_
 intro w0 Q hQ
 unfold pt zY at h
 refine kT [(0,vp d)]<|ar 0<|eT 2 [] []<|ge<|ar 1<|eH 1 [] [(13,vp d)]<|sa 14 [13] h λx H1 h=>ym<|qx h (λc1 h=>?_) (λc1 h=>?_)
 ·exact aJ 14 c1<|ar 2<|hV 2 [2,3] [vi 0,vi 0] hQ h
 refine aK 14 (zZ c1)<|kd<|ar 3<|eH 1 [14] [(15,vp d)] ?_
 obtain⟨e,rfl,ha⟩:=h
 refine u8 2 [(0,Vq e),(17,Vq e)]<|have⟨az,q3,h⟩:=ha;hH 18 49 q3 [17]<|sa 19 [18] h λm H2 h=>eT 1 [19] [(4,vp m)]<|ge<|ar 4<|eH 3 [] [(22,Vq e)]<|have⟨a6,q4,h⟩:=h;hH 23 49 q4 [22] ?_
 obtain⟨a8,rfl,hb⟩:=h
 refine eH 2 [23] [(25,Vq a8)]<|have⟨a3,q5,h⟩:=hb;hH 26 52 q5 [25] ?_
 obtain⟨a9,rfl,hc⟩:=h
 refine eH 2 [26] [(28,Vq a9)]<|have⟨ay,q6,h⟩:=hc;hH 29 78 q6 [28]<|zt 30 [29] h λxB xN xC H3 h=>eT 2 [] [(31,vi xN),(32,vi 0)]<|o0 0<|have⟨a7,m19,i7,i8⟩:=h;bJ (x:=zT) (σ:=Int) (λs_=> [(0,Vq e),(4,vp m),(30,vs xB xN xC),(31,vi xN),(32,vi s_)]) (λs_ H=>a7 s_ H) (λs_ H=>m19 s_ H) (0:Int) (by kernel_rfl) i7 sk ?_
 rintro f H4 i9
 have h:=i8 f H4 i9
 refine kT [(0,Vq e),(4,vp m),(30,vs xB xN xC),(31,vi xN),(32,vi f)]<|ar 5<|eT 1 [] [(33,.bool (decide (f< (xN:Int))))]<|ge<|qx h (λc10 h=>?_) (λc10 h=>?_)
 ·refine aJ 33 (zX c10)<|kd<|ge<|o0 1<|ar 6<|yA [33] [] ?_
  obtain⟨j,rfl,q12,hd⟩:=h
  refine yp (some 34) 75 3 1 j xN xC .i64 f underlying75 q12.1 q12.2 [30] [(30,vs (some j) xN xC),(34,Vq (j.add (Int.toNat f*1)))]<|have⟨g,q13,h⟩:=hd;hH 35 3 q13 [34]<|eT 1 [35] [(6,vi g)]<|ar 7<|eH 3 [] [(39,Vq e)]<|have⟨a0,q14,h⟩:=h;hH 40 49 q14 [39] ?_
  obtain⟨a2,rfl,he⟩:=h
  refine eH 2 [40] [(42,Vq a2)]<|have⟨a1,q15,h⟩:=he;hH 43 52 q15 [42] ?_
  obtain⟨a5,rfl,hf⟩:=h
  refine eH 2 [43] [(45,Vq a5)]<|have⟨ao,q16,h⟩:=hf;hH 46 78 q16 [45]<|eH 1 [] [(47,vi g)]<|zE 48 [46,47] h λam aj aq af ae ac ab rb H5 h=>eH 3 [48] [(49,.agg #[vi am,vi aj,vi aq,vi af,vi ae,vi ac,vi ab]),(50,.bool rb)]<|sv (some 7) (λb=>vp (pa b)) (.cells #[vi 0,vi 0,vi 0,vi 0,vi 0,vi 0,vi 0] 108)<|λb H6 e17 e18=>have h:=h b H6 e17 e18;kb [] [(7,vp (pa b))]<|have⟨q20,h⟩:=h;fK 108 [vi am,vi aj,vi aq,vi af,vi ae,vi ac,vi ab] q20<|λH7 e19=>have h:=h H7 e19;kb [49] []<|eT 1 [50] []<|ar 8<|eH 1 [7] [(51,Vq ((ad b).add 3))]<|have⟨aa,s,u,z,q21,h⟩:=h;zr 52 79 q21 [51]<|eT 1 [] [(53,vi 0)]<|o0 2<|have⟨a4,m36,i22,i23⟩:=h;bJ (x:=AD) (σ:=Int) (λs_=> [(0,Vq e),(4,vp m),(6,vi g),(30,vs (some j) xN xC),(31,vi xN),(32,vi f),(52,.agg #[vi aa,vi s,vi u,vi z]),(53,vi s_)]) (λs_ H=>a4 s_ H) (λs_ H=>m36 s_ H) (0:Int) (by kernel_rfl) i22 sk ?_
  rintro hv H8 i24
  have h:=i23 hv H8 i24
  refine kT [(0,Vq e),(4,vp m),(6,vi g),(30,vs (some j) xN xC),(31,vi xN),(32,vi f),(52,.agg #[vi aa,vi s,vi u,vi z]),(53,vi hv)]<|ar 9<|eT 1 [] [(54,.bool (decide (hv<4)))]<|ge<|qx h (λc25 h=>?_) (λc25 h=>?_)
  ·refine aJ 54 (zX c25)<|kd<|ge<|o0 3<|ar 10<|eH 1 [54] [(55,vi hv)] ?_
   obtain⟨y,q27,h⟩:=h
   refine yI 56 (mD 79 (.agg #[vi aa,vi s,vi u,vi z]) (vi hv)) (vi y) (λw _=>jZ (P:=prog) (t:=79) (elem:=3) (n:=4) underlying79 (λ_=>by kernel_rfl) (λ_=>by kernel_rfl) q27.1.1 q27.1.2 q27.2 w) []<|eT 2 [55,56] [(9,vi hv),(10,vi y)]<|ar 11<|eH 3 [] [(57,vp m),(58,vi g),(59,vi hv)]<|zf (some 60) h ?_;clear h
   rintro bf H9 ⟨bb,rfl,h⟩
   refine kb [57,58,59] []<|ym<|ar 12<|eH 1 [] [(62,vp m)] ?_
   obtain⟨ai,rfl,hg⟩:=h
   refine eH 2 [4,62] [(4,Vq ai),(64,Vq ai)]<|have⟨ax,q28,h⟩:=hg;hH 65 52 q28 [64] ?_
   obtain⟨aw,rfl,hh⟩:=h
   refine eH 2 [65] [(67,Vq aw)]<|have⟨ap,q29,h⟩:=hh;hH 68 78 q29 [67]<|eH 1 [] [(69,vi g)]<|zE 70 [68,69] h λah ag al p r q o au ba h=>eH 3 [70] [(71,.agg #[vi ah,vi ag,vi al,vi p,vi r,vi q,vi o]),(72,.bool au)]<|sv (some 11) (λb=>vp (pa b)) (.cells #[vi 0,vi 0,vi 0,vi 0,vi 0,vi 0,vi 0] 108)<|λak H11 e30 e31=>have h:=h ak H11 e30 e31;kb [] [(11,vp (pa ak))]<|have⟨q33,h⟩:=h;fK 108 [vi ah,vi ag,vi al,vi p,vi r,vi q,vi o] q33<|λav e32=>have h:=h av e32;kb [71] []<|eT 1 [72] []<|ar 13<|eH 3 [10,11] [(73,vi y),(74,vi hv),(75,Vq ((ad ak).add 3))]<|have⟨q34,h⟩:=h;yI 76 (bD 79 (Vq ((ad ak).add 3)) (vi hv)) (Vq (((ad ak).add 3).add (Int.toNat hv*1))) (λw _=>bO (P:=prog) (t:=79) (elem:=3) (sz:=1) (n:=4) (a:=((ad ak).add 3)) (k:=.i64) (i:=hv) underlying79 (λ_=>by kernel_rfl) q34.1 q34.2 w) [74,75]<|have⟨an,q35,h⟩:=h;hH 77 3 q35 [76]<|eT 1 [73,77] [(78,.bool (decide (y>an)))]<|qx h (λc36 h=>?_) (λc36 h=>?_)
   ·exact aJ 78 (zX c36)<|ar 14<|hV 7 [2,3] [vi (zY ((zY (g*64))+(zY (hv*16)))),vi 4] hQ h
   exact aK 78 (zQ c36)<|yR<|aA<|aC<|nx 15<|eT 2 [9,53,78] [(53,vi (zY (hv+1)))]<|aR ((zY (hv+1)):Int) sk h
  exact aK 54 (zQ c25)<|zk 2<|aB<|aB<|aN<|aA<|aC<|nx 16<|eT 2 [6,32,52,53,54] [(32,vi (zY (f+1)))]<|aR ((zY (f+1)):Int) sk h
 exact aK 33 (zQ c10)<|zk 0<|aB<|aB<|aN<|aC<|ar 17<|hV 2 [2,3] [vi 0,vi 0] hQ h
def aV.K0:=Func.code f121
def aV.pt(nv:zW)(wv d:Int)(H:zV)(R:zv):Prop:=
 if d=0 then(
 ∃e,nv=some e/\
 ∃xB xN xC,hat H (e.add 3)=some (vs xB xN xC)/\
 ∀b H1,b=H.size->H1=H.push (.cells #[vu wv] 28)->
 bI 1 28 8 [vu 0] xB xN xC (some (ad b)) 1 H1 (λap x H2=>
 (aH H2 (e.add 3) 0 1)/\ ∀H3,H3=aP H2 (e.add 3) [vs ap (xN+1) x] 0->
 ∃q i p,hat H3 (e.add 4)=some (vs q i p)/\
 ∀z H4,z=H3.size->H4=H3.push (.cells #[vi d] 3)->
 bI 1 3 8 [vi 0] q i p (some (ad z)) 1 H4 (λv m H5=>
 (aH H5 (e.add 4) 0 1)/\ ∀H6,H6=aP H5 (e.add 4) [vs v (i+1) m] 0->
 R (.tuple #[]) H6)))
 else
 ∃a,nv=some a/\
 ∃s g n,hat H (a.add 3)=some (vs s g n)/\
 ∀aa H7,aa=H.size->H7=H.push (.cells #[vu 0] 28)->
 bI 1 28 8 [vu 0] s g n (some (ad aa)) 1 H7 (λu j H8=>
 (aH H8 (a.add 3) 0 1)/\ ∀H9,H9=aP H8 (a.add 3) [vs u (g+1) j] 0->
 ∃r f o,hat H9 (a.add 4)=some (vs r f o)/\
 ∀y H10,y=H9.size->H10=H9.push (.cells #[vi d] 3)->
 bI 1 3 8 [vi 0] r f o (some (ad y)) 1 H10 (λt k ac=>
 (aH ac (a.add 4) 0 1)/\ ∀ab,ab=aP ac (a.add 4) [vs t (f+1) k] 0->
 R (.tuple #[]) ab))
theorem aV.link{wv:Int}(h:pt d i wv H R):C d i wv H R:=by
 refine p0 K0 28 func121 ?_
 intro w0 Q hQ
 unfold pt at h
 refine kT [(0,vp d),(1,vu i),(2,vi wv)]<|ge<|ar 0<|eT 2 [] [(7,.bool (wv !=0))]<|qx h (λc1 h=>?_) (λc1 h=>?_)
 ·refine aK 7 (bne_eq_false_iff_eq.mpr c1)<|kd<|ar 2<|eH 2 [7] [(8,vp d),(9,vp d)] ?_
  obtain⟨e,rfl,ha⟩:=h
  refine eH 2 [0,8,9] [(0,Vq e),(8,Vq e),(11,Vq (e.add 3))]<|have⟨xB,xN,xC,q3,h⟩:=ha;hH 12 32 q3 [11]<|eH 1 [1] [(13,vu i)]<|sv (some 14) (λb=>vs (pa b) 1 1) (.cells #[vu i] 28) ?_
  intro b H1 e4 e5
  replace h:=h b H1 e4 e5
  refine kb [13] [(14,vs (pa b) 1 1)]<|yO (some 15) (cG #[32,32] 32 #[vs xB xN xC,vs (pa b) 1 1]) _ (λ_=>by kernel_rfl) (bK (T:=28) (sz:=1) (bytes:=8) (zero:=(vu 0:Value)) underlying32 underlying32 rfl (show prog.info? 28=some t28 from by kernel_rfl) (by kernel_rfl) (by kernel_rfl) (by decide) (by kernel_rfl) (by first | exact h | (simpa only[Value.cells,List.toList_toArray]using h))) ?_;clear h
  rintro _ H2 ⟨ap,x,rfl,h⟩
  refine kb [12,14] [(15,vs ap (xN+1) x)]<|eH 2 [8] [(17,Vq (e.add 3))]<|have⟨q7,h⟩:=h;eQ 32 (vs ap (xN+1) x) q7<|λH3 e6=>have h:=h H3 e6;kb [15,17] []<|ym<|nx 3<|eH 4 [0] [(18,Vq e),(21,Vq (e.add 4))]<|have⟨q,nv,p,q8,h⟩:=h;hH 22 75 q8 [21]<|eH 1 [2] [(23,vi wv)]<|sv (some 24) (λb=>vs (pa b) 1 1) (.cells #[vi wv] 3) ?_
  intro z H4 e9 e10
  replace h:=h z H4 e9 e10
  refine kb [23] [(24,vs (pa z) 1 1)]<|yO (some 25) (cG #[75,75] 75 #[vs q nv p,vs (pa z) 1 1]) _ (λ_=>by kernel_rfl) (bK (T:=3) (sz:=1) (bytes:=8) (zero:=(vi 0:Value)) underlying75 underlying75 rfl (show prog.info? 3=some t3 from by kernel_rfl) (by kernel_rfl) (by kernel_rfl) (by decide) (by kernel_rfl) (by first | exact h | (simpa only[Value.cells,List.toList_toArray]using h))) ?_;clear h
  rintro _ H5 ⟨v,m,rfl,h⟩
  refine kb [22,24] [(25,vs v (nv+1) m)]<|eH 2 [18] [(27,Vq (e.add 4))]<|have⟨q12,h⟩:=h;eQ 75 (vs v (nv+1) m) q12<|λH6 e11=>have h:=h H6 e11;⟨[],pk,?_⟩
  exact zq<|gF (fn:=f121) [] hQ (show bS _ _ _ [] _ from .nil) h
 refine aJ 7 (bne_iff_ne.mpr c1)<|nx 1<|eT 1 [1,7] [(1,vu 0)]<|ar 2<|eH 2 [] [(8,vp d),(9,vp d)] ?_
 obtain⟨a,rfl,hb⟩:=h
 refine eH 2 [0,8,9] [(0,Vq a),(8,Vq a),(11,Vq (a.add 3))]<|have⟨s,g,n,q13,h⟩:=hb;hH 12 32 q13 [11]<|eH 1 [1] [(13,vu 0)]<|sv (some 14) (λb=>vs (pa b) 1 1) (.cells #[vu 0] 28) ?_
 intro aa H7 e14 e15
 replace h:=h aa H7 e14 e15
 refine kb [13] [(14,vs (pa aa) 1 1)]<|yO (some 15) (cG #[32,32] 32 #[vs s g n,vs (pa aa) 1 1]) _ (λ_=>by kernel_rfl) (bK (T:=28) (sz:=1) (bytes:=8) (zero:=(vu 0:Value)) underlying32 underlying32 rfl (show prog.info? 28=some t28 from by kernel_rfl) (by kernel_rfl) (by kernel_rfl) (by decide) (by kernel_rfl) (by first | exact h | (simpa only[Value.cells,List.toList_toArray]using h))) ?_;clear h
 rintro _ H8 ⟨u,j,rfl,h⟩
 refine kb [12,14] [(15,vs u (g+1) j)]<|eH 2 [8] [(17,Vq (a.add 3))]<|have⟨q17,h⟩:=h;eQ 32 (vs u (g+1) j) q17<|λH9 e16=>have h:=h H9 e16;kb [15,17] []<|ym<|nx 3<|eH 4 [0] [(18,Vq a),(21,Vq (a.add 4))]<|have⟨r,f,o,q18,h⟩:=h;hH 22 75 q18 [21]<|eH 1 [2] [(23,vi wv)]<|sv (some 24) (λb=>vs (pa b) 1 1) (.cells #[vi wv] 3) ?_
 intro y H10 e19 e20
 replace h:=h y H10 e19 e20
 refine kb [23] [(24,vs (pa y) 1 1)]<|yO (some 25) (cG #[75,75] 75 #[vs r f o,vs (pa y) 1 1]) _ (λ_=>by kernel_rfl) (bK (T:=3) (sz:=1) (bytes:=8) (zero:=(vi 0:Value)) underlying75 underlying75 rfl (show prog.info? 3=some t3 from by kernel_rfl) (by kernel_rfl) (by kernel_rfl) (by decide) (by kernel_rfl) (by first | exact h | (simpa only[Value.cells,List.toList_toArray]using h))) ?_;clear h
 rintro _ ac ⟨t,k,rfl,h⟩
 refine kb [22,24] [(25,vs t (f+1) k)]<|eH 2 [18] [(27,Vq (a.add 4))]<|have⟨q22,h⟩:=h;eQ 75 (vs t (f+1) k) q22<|λab e21=>have h:=h ab e21;⟨[],pk,?_⟩
 exact zq<|gF (fn:=f121) [] hQ (show bS _ _ _ [] _ from .nil) h
def jr.K0:=Func.code f123
def jr.pt(wv:Int)(r f a:zW)(H:zV)(R:zv):Prop:=
 ∃g,r=some g/\
 ∃x,hat H g=some (vp x)/\
 iU.C x H (λv H1=> ∃j,v=.bool j/\
 if j=true then(
 R (.tuple #[]) H1)
 else
 ∃q,hat H1 g=some (vp q)/\
 bN.C q wv H1 (λac H2=> ∃p,ac=vi p/\
 if p>0 then(
 ∃d,f=some d/\
 ∃s,hat H2 d=some (.map s)/\
 ∃mr,s=some mr/\
 ∃es cl ks,H2[mr]?=some (.map es cl)/\va (aY .u64) es.toList ks/\
 ∃m,(yl ks wv).getD (vi 0)=vi m/\
 if m=0 then(
 ∃e,a=some e/\
 ∃xB xN xC,hat H2 e=some (vs xB xN xC)/\
 ∀b H3,b=H2.size->H3=H2.push (.cells #[vu wv] 28)->
 bI 1 28 8 [vu 0] xB xN xC (some (ad b)) 1 H3 (λap t H4=>
 (aH H4 e 0 1)/\ ∀H5,H5=aP H4 e [vs ap (xN+1) t] 0->
 ∃o,hat H5 d=some (.map o)/\
 ∃y i u,hat H5 e=some (vs y i u)/\
 ∃n,o=some n/\
 ∃ab cl_2 ks_2,H5[n]?=some (.map ab cl_2)/\va (aY .u64) ab.toList ks_2/\
 ∀aa cl_3 H6,H6=aL H5 n (.map aa cl_3)->va (aY .u64) aa.toList (yr ks_2 wv (vi (i:Int)))->
 R (.tuple #[]) H6))
 else
 R (.tuple #[]) H2)
 else
 R (.tuple #[]) H2))
theorem jr.link{a:zW}(h:pt i d j a H R):C i d j a H R:=by
 refine p0 K0 28 func123 ?_
 intro w0 Q hQ
 unfold pt at h
 refine kT [(0,vu i),(1,vp d),(2,vp j),(3,vp a)]<|ar 0 ?_
 obtain⟨g,rfl,x,q1,ha⟩:=h
 refine Af (some 5) 23 q1 [1] [(1,Vq g),(5,vp x)]<|sa 6 [5] ha λwv H1 h=>eH 2 [6] [(8,.bool (!wv))]<|qx h (λc2 h=>?_) (λc2 h=>?_)
 ·have b3:(!wv)=false:=congrArg Bool.not (c2)
  have b32:wv=true:=c2
  refine oo 8 (b:=(!wv)) (v:=false) (by simp only[b3,b32,Bool.not_true,Bool.not_false]) ?_
  clear b3 b32
  exact eT 11 [1,8] [(19,VF)]<|yn 19<|yR<|gF (fn:=f123) [] hQ (show bS _ _ _ [] _ from .nil) h
 have b3:(!wv)=true:=congrArg Bool.not (zZ c2)
 have b32:wv=false:=zZ c2
 refine oo 8 (b:=(!wv)) (v:=true) (by simp only[b3,b32,Bool.not_true,Bool.not_false]) ?_
 clear b3 b32
 refine have⟨q,q4,h⟩:=h;hH 9 23 q4 [1]<|eH 1 [] [(10,vu i)]<|sa 11 [9,10] h λp H2 h=>eH 3 [8,11] [(14,.bool (decide (p>0)))]<|qx h (λc5 h=>?_) (λc5 h=>?_)
 ·refine oo 14 (zX c5) ?_
  obtain⟨f,rfl,s,q7,hb⟩:=h
  refine Af (some 15) 149 q7 [2] [(2,Vq f),(15,.map s)]<|eH 1 [] [(16,vu i)] ?_
  obtain⟨mr,rfl,es,cl,ks,q8,q9,m,e25,hc⟩:=hb
  have h:=hc
  refine yI 17 (jP 149 (.map (some mr)) (vu i) false) (vi m) (λw hw=>(hX (kk:=(aY .u64)) (z:=vi 0) underlying149 underlying28 (λ_=>by kernel_rfl) (by rw[hw];exact q8) q9 false).trans (by simp only[if_true,Bool.false_eq_true,if_false,e25])) [15,16]<|eT 2 [14,17] [(19,.bool (m==0))] ?_
  revert h;refine AV (λc11 h=>?_) (λc11 h=>?_)
  ·refine aJ 19 (zK c11)<|ar 1<|yA [19] [] ?_
   obtain⟨e,rfl,xB,xN,xC,q13,hd⟩:=h
   have h:=hd
   refine Af (some 20) 32 q13 [3] [(3,Vq e),(20,vs xB xN xC)]<|eH 1 [] [(21,vu i)]<|sv (some 22) (λb=>vs (pa b) 1 1) (.cells #[vu i] 28) ?_
   intro b H3 e14 e15
   replace h:=h b H3 e14 e15
   refine kb [21] [(22,vs (pa b) 1 1)]<|yO (some 23) (cG #[32,32] 32 #[vs xB xN xC,vs (pa b) 1 1]) _ (λ_=>by kernel_rfl) (bK (T:=28) (sz:=1) (bytes:=8) (zero:=(vu 0:Value)) underlying32 underlying32 rfl (show prog.info? 28=some t28 from by kernel_rfl) (by kernel_rfl) (by kernel_rfl) (by decide) (by kernel_rfl) (by first | exact h | (simpa only[Value.cells,List.toList_toArray]using h))) ?_;clear h
   rintro _ H4 ⟨ap,t,rfl,h⟩
   refine kb [20,22] [(23,vs ap (xN+1) t)]<|have⟨q17,h⟩:=h;eQ 32 (vs ap (xN+1) t) q17<|λH5 e16=>have h:=h H5 e16;kb [23] []<|ym<|nx 2<|have⟨o,q18,h⟩:=h;hH 24 149 q18 [2]<|eH 1 [0] [(25,vu i)]<|have⟨y,r,u,q19,h⟩:=h;hH 26 32 q19 [3]<|eH 1 [26] [(27,vi r)] ?_
   obtain⟨n,rfl,ab,cl_2,ks_2,q20,q21,he⟩:=h
   refine mz none (mQ 149 (.map (some n)) (vu i) (vi r)) (λHz=> ∃es2 cl2,Hz=aL H5 n (.map es2 cl2)/\va (aY .u64) es2.toList (yr ks_2 i (vi r))) (λ_=>by kernel_rfl) (λw hw=>by obtain⟨es2,cl2,q1,q2⟩:=nh (kk:=(aY .u64)) (P:=prog) (w:=w) (k:=i) (v:=vi r) underlying149 underlying28 (by rw[hw];exact q20) q21;exact⟨_,q1,⟨rfl,rfl,rfl,Nat.le_refl _⟩,es2,cl2,by rw[<-hw],q2⟩) ?_
   rintro H6 ⟨aa,cl_3,e23,e24⟩
   refine have h:=he aa cl_3 H6 e23 e24;⟨[],pk,?_⟩
   exact zq<|gF (fn:=f123) [] hQ (show bS _ _ _ [] _ from .nil) h
  exact aK 19 (zJ c11)<|yR<|gF (fn:=f123) [] hQ (show bS _ _ _ [] _ from .nil) h
 exact oo 14 (zQ c5)<|eT 5 [14] [(19,VF)]<|yn 19<|yR<|gF (fn:=f123) [] hQ (show bS _ _ _ [] _ from .nil) h
def iU.K0:=Func.code f124
def iU.pt(hv:zW)(H:zV)(R:zv):Prop:=
 fE hv (
 R VT H) (λa=>
 ∃x,hat H a=some (vp x)/\
 fE x (
 R VT H) (λxA=>
 ∃j,hat H a=some (vp j)/\
 ∃e,j=some e/\
 ∃b,hat H e=some (vp b)/\
 fE b (
 R VT H) (λn=>
 ∃k,hat H a=some (vp k)/\
 ∃f,k=some f/\
 ∃g,hat H f=some (vp g)/\
 ∃i,g=some i/\
 ∃d,hat H i=some (vp d)/\
 fE d (
 R VT H) (λm=>
 R VF H))))
theorem iU.link(h:pt d H R):C d H R:=by
 refine p0 K0 35 func124 ?_
 intro w0 Q hQ
 unfold pt at h
 refine kT [(0,vp d)]<|ar 0<|eT 1 [] []<|ar 1<|eH 1 [] [(3,vp d)] ?_
 rcases d with _ | a
 ·rw[onPtr_none]at h
  exact hV 32 [2] [VT] hQ h
 rw[onPtr_some]at h
 refine u8 5 [(0,Vq a),(5,VF),(8,Vq a)]<|have⟨x,q1,h⟩:=h;hH 9 49 q1 [8] ?_
 rcases x with _ | xA
 ·rw[onPtr_none]at h
  exact hV 26 [2] [VT] hQ h
 rw[onPtr_some]at h
 refine eH 6 [5,9] [(12,VF),(15,Vq a)]<|have⟨j,q2,h⟩:=h;hH 16 49 q2 [15] ?_
 obtain⟨e,rfl,ha⟩:=h
 refine eH 2 [16] [(18,Vq e)]<|have⟨b,q3,h⟩:=ha;hH 19 52 q3 [18] ?_
 rcases b with _ | n
 ·rw[onPtr_none]at h
  exact hV 16 [2] [VT] hQ h
 rw[onPtr_some]at h
 refine u8 6 [(22,VF),(25,Vq a)]<|have⟨k,q4,h⟩:=h;hH 26 49 q4 [25] ?_
 obtain⟨f,rfl,hb⟩:=h
 refine eH 2 [26] [(28,Vq f)]<|have⟨g,q5,h⟩:=hb;hH 29 52 q5 [28] ?_
 obtain⟨i,rfl,hc⟩:=h
 refine eH 2 [29] [(31,Vq i)]<|have⟨hv,q6,h⟩:=hc;hH 32 78 q6 [31] ?_
 rcases hv with _ | m
 ·rw[onPtr_none]at h
  exact hV 3 [2] [VT] hQ h
 rw[onPtr_some]at h
 exact hV 3 [2] [VF] hQ h
namespace fP
def K0:=Func.code f79
def K2:=cb K0
def K4:=cb K2
def K6:=cb K4
def K7:=ca K6
def K8:=cb K6
def zu:=cb K7
def K11:=ca zu
def zd:=ca K11
def Ax:=cb K8
def Aw:=ca Ax
def Am:=cb Aw
def AK:=ca Am
def zI:=ca AK
def zN:=cb zI
def AD:=cb zN
def AR:=ca AD
def Bk:=ca AR
def Ao:=cb Bk
def As:=ca Ao
def AX:=cb Ao
def AZ:=ca AX
def BN:=cb AX
def K48:=cb AZ
def K49:=ca K48
def BQ:=ca K49
def K51:=cb K49
def BO:=ca BN
def Ck:=cb BO
def Cr:=ca Ck
def Bm:=ca Cr
def BP:=ca Bm
def BR:=ca BP
end fP
def fP.pt(hv af:zW)(q y:Nat)(H:zV)(R:zv):Prop:=
 ∀b H1,b=H.size->H1=H.push (.cells #[vp hv] 23)->
 ∃x,hat H1 (ad b)=some (vp x)/\
 jt.C x af q y H1 (λv H2=> ∃aj d n rb,v=.tuple #[vs aj d n,.map rb]/\
 ∀m H3,m=H2.size->H3=H2.push (.cells #[.map none] 149)->
 (aH H3 (ad m) 0 1)/\ ∀H4,H4=aP H3 (ad m) [.map rb] 0->
 ∀a1 H5,a1=H4.size->H5=H4.push (.cells #[vi 0,vi 0,vu 0,VN,VN] 147)->
 ∃(gj:zw) (m13:Int->zV->Nat),gj 0 H5/\ ∀ao H6,gj ao H6->
 if ao< (q:Int)then(
 ∃ah,af=some ah/\
 yZ ao q/\
 ∃bl,hat H6 (ah.add (Int.toNat ao*1))=some (vu bl)/\
 ∃f6,hat H6 (ad m)=some (.map f6)/\
 ∃mr,f6=some mr/\
 ∃es cl ks,H6[mr]?=some (.map es cl)/\va (aY .u64) es.toList ks/\
 ∃gc,(yl ks bl).getD (vi 0)=vi gc/\
 aV.C (some (ad a1)) bl gc H6 (λ_ H7=>
 (gj (zY (ao+1)) H7/\m13 (zY (ao+1)) H7<m13 ao H6)))
 else
 ∃ff dq dp bw bq br fi fm eu,aM H6 (ad a1) 0 [vi ff,vi dq,vu dp,vs bw bq br,vs fi fm eu]/\
 ∀fq H8,fq=H6.size->H8=H6.push (.cells #[vi ff,vi dq,vu dp,vs bw bq br,vs fi fm eu] 147)->
 ∃(c6:zW->Nat->Nat->Int->(List Nat)->zV->Prop) (m32:zW->Nat->Nat->Int->(List Nat)->zV->Nat),c6 (some (ad fq)) 1 1 0 ([]) H8/\ ∀(f:zW) (outN:Nat) (outC:Nat) (s42:Int) (ms:List Nat) (H9:zV),c6 f outN outC s42 ms H9->
 if s42< (d:Int)then(
 ∃j,aj=some j/\
 yZ s42 d/\
 ∃ej,hat H9 (j.add (Int.toNat s42*1))=some (vu ej)/\
 ∀e H10,e=H9.size->H10=H9.push (.cells #[vu 0] 28)->
 (aH H10 (ad e) 0 1)/\ ∀db,db=aP H10 (ad e) [vu ej] 0->
 ∃b0,hat db (ad e)=some (vu b0)/\
 ∃a5,hat db (ad b)=some (vp a5)/\
 ∃a6,hat db (ad e)=some (vu a6)/\
 ∃aw,hat db (ad b)=some (vp aw)/\
 ∃ai,hat db (ad e)=some (vu ai)/\
 (
 cK.C b0 db (λjk fw=> ∃ag,jk=vi ag/\aM fw (ad b) 0 [vp a5]/\aM fw (ad e) 0 [vu a6]/\aM fw (ad b) 0 [vp aw]/\aM fw (ad e) 0 [vu ai]/\
 (
 bU.C a5 a6 fw (λjn f4=> ∃ax,jn=vi ax/\aM f4 (ad b) 0 [vp aw]/\aM f4 (ad e) 0 [vu ai]/\
 (
 eE.C aw ai f4 (λjl h6=> ∃b1,jl=vu b1/\
 ∀u H15,u=h6.size->H15=h6.push (.cells #[vi 0,vi 0,vu 0,VN,VN] 147)->
 (aH H15 (ad u) 0 5)/\ ∀f9,f9=aP H15 (ad u) [vi ag,vi ax,vu b1,VN,VN] 0->
 ∃dy,hat f9 (ad b)=some (vp dy)/\
 ∃e3,hat f9 (ad e)=some (vu e3)/\
 bQ.C dy e3 f9 (λfz fy=>fz=fz/\
 ∀(rc:LoopState->Option Code->Obj) (lp:Nat) (H18:zV),lp=fy.size+1->H18=(fy.push (.deferred (some []))).push (rc .ready none)->
 ∀vY,(∀(am:Int) (x_18:Int) (H19:zV) (vRy:zv),H19[lp]?=some (rc .ready none)->
 (H19[lp]?=some (rc .ready none)/\ ∀fv,fv=aL H19 lp (rc .busy none)->
 ∃en,hat fv (ad m)=some (.map en)/\
 ∃gg,en=some gg/\
 ∃gz cl_2 ks_2,fv[gg]?=some (.map gz cl_2)/\va (aY .u64) gz.toList ks_2/\
 ∃aa,(yl ks_2 x_18).getD (vi 0)=vi aa/\
 if aa=0 then(
 ∃fk,hat fv (ad e)=some (vu fk)/\
 cK.C fk fv (λjm hb=> ∃c9,jm=vi c9/\
 if c9=2 then(
 ∃fg,hat hb (ad e)=some (vu fg)/\
 eV.C fg hb (λjf g9=> ∃dg,jf=vi dg/\
 if am=dg then(
 ∃dr,hat g9 (ad b)=some (vp dr)/\
 bN.C dr x_18 g9 (λji ix=> ∃dj,ji=vi dj/\
 if dj>0 then(
 aV.C (some (ad u)) x_18 (-1) ix (λ_ im=>
 im[lp]?=some (rc .busy none)/\
 vRy VT (aL im lp (rc .ready none))))
 else
 aV.C (some (ad u)) x_18 aa ix (λ_ jd=>
 jd[lp]?=some (rc .busy none)/\
 vRy VT (aL jd lp (rc .ready none)))))
 else
 aV.C (some (ad u)) x_18 aa g9 (λ_ jc=>
 jc[lp]?=some (rc .busy none)/\
 vRy VT (aL jc lp (rc .ready none)))))
 else
 aV.C (some (ad u)) x_18 aa hb (λ_ ip=>
 ip[lp]?=some (rc .busy none)/\
 vRy VT (aL ip lp (rc .ready none)))))
 else
 aV.C (some (ad u)) x_18 aa fv (λ_ il=>
 il[lp]?=some (rc .busy none)/\
 vRy VT (aL il lp (rc .ready none))))->
 FC prog vY #[vi am,vu x_18] H19 vRy)->
 FE prog fz #[vY] H18 (λ_ h8=>
 (h8[lp]?=some (rc .ready none)/\ ∀g4,g4=aL h8 lp (rc .exhausted none)->
 ∃(gk:zw) (m69:Int->zV->Nat),gk 0 g4/\ ∀i H31,gk i H31->
 ∃xB xN xC,hat H31 ((ad u).add 3)=some (vs xB xN xC)/\
 ∃dd,hat H31 (ad b)=some (vp dd)/\
 ∃d9,hat H31 (ad e)=some (vu d9)/\
 cL.C dd d9 H31 (λi8 ek=> ∃b2,i8=vi b2/\aM ek ((ad u).add 3) 0 [vs xB xN xC]/\
 if(xN:Int)<b2 then(
 ∃b8,hat ek (ad b)=some (vp b8)/\
 ∃c2,hat ek (ad e)=some (vu c2)/\
 ∃d7,hat ek ((ad u).add 1)=some (vi d7)/\
 dD.C b8 c2 d7 i ek (λiu jh=> ∃ra gp,iu=.tuple #[vu ra,vi gp]/\
 aV.C (some (ad u)) ra 0 jh (λ_ iy=>
 (gk (zY (i+1)) iy/\m69 (zY (i+1)) iy<m69 i H31))))
 else
 ∃cv bo bm a7 a9 bb cj cq cw,aM ek (ad u) 0 [vi cv,vi bo,vu bm,vs a7 a9 bb,vs cj cq cw]/\
 ∀f8 H35,f8=ek.size->H35=ek.push (.cells #[vi cv,vi bo,vu bm,vs a7 a9 bb,vs cj cq cw] 147)->
 bI 5 147 72 [vi 0,vi 0,vu 0,VN,VN] f outN outC (some (ad f8)) 1 H35 (λap f2 hh=>
 (c6 ap (outN+1) f2 (zY (s42+1)) (fy.size::ms) hh/\m32 ap (outN+1) f2 (zY (s42+1)) (fy.size::ms) hh<m32 f outN outC s42 ms H9))))))))/\(
 ∀r H37,r=f4.size->H37=f4.push (.cells #[vi 0,vi 0,vu 0,VN,VN] 147)->aM H37 (ad b) 0 [vp aw]/\aM H37 (ad e) 0 [vu ai]/\
 eE.C aw ai H37 (λhu g0=> ∃cc,hu=vu cc/\
 (aH g0 (ad r) 0 5)/\ ∀f5,f5=aP g0 (ad r) [vi ag,vi ax,vu cc,VN,VN] 0->
 ∃d4,hat f5 (ad b)=some (vp d4)/\
 ∃ez,hat f5 (ad e)=some (vu ez)/\
 bQ.C d4 ez f5 (λd5 f1=>d5=d5/\
 ∀(a3:LoopState->Option Code->Obj) (lp_2:Nat) (H41:zV),lp_2=f1.size+1->H41=(f1.push (.deferred (some []))).push (a3 .ready none)->
 ∀ih,(∀(ak:Int) (x_38:Int) (H42:zV) (vRy_2:zv),H42[lp_2]?=some (a3 .ready none)->
 (H42[lp_2]?=some (a3 .ready none)/\ ∀fs,fs=aL H42 lp_2 (a3 .busy none)->
 ∃eo,hat fs (ad m)=some (.map eo)/\
 ∃gh,eo=some gh/\
 ∃gq cl_3 ks_3,fs[gh]?=some (.map gq cl_3)/\va (aY .u64) gq.toList ks_3/\
 ∃ab,(yl ks_3 x_38).getD (vi 0)=vi ab/\
 if ab=0 then(
 ∃ey,hat fs (ad e)=some (vu ey)/\
 cK.C ey fs (λit g2=> ∃dh,it=vi dh/\
 if dh=2 then(
 ∃ep,hat g2 (ad e)=some (vu ep)/\
 eV.C ep g2 (λi9 hf=> ∃df,i9=vi df/\
 if ak=df then(
 ∃d8,hat hf (ad b)=some (vp d8)/\
 bN.C d8 x_38 hf (λh1 iz=> ∃dl,h1=vi dl/\
 if dl>0 then(
 aV.C (some (ad r)) x_38 (-1) iz (λ_ h7=>
 h7[lp_2]?=some (a3 .busy none)/\
 vRy_2 VT (aL h7 lp_2 (a3 .ready none))))
 else
 aV.C (some (ad r)) x_38 ab iz (λ_ i2=>
 i2[lp_2]?=some (a3 .busy none)/\
 vRy_2 VT (aL i2 lp_2 (a3 .ready none)))))
 else
 aV.C (some (ad r)) x_38 ab hf (λ_ hl=>
 hl[lp_2]?=some (a3 .busy none)/\
 vRy_2 VT (aL hl lp_2 (a3 .ready none)))))
 else
 aV.C (some (ad r)) x_38 ab g2 (λ_ ik=>
 ik[lp_2]?=some (a3 .busy none)/\
 vRy_2 VT (aL ik lp_2 (a3 .ready none)))))
 else
 aV.C (some (ad r)) x_38 ab fs (λ_ hi=>
 hi[lp_2]?=some (a3 .busy none)/\
 vRy_2 VT (aL hi lp_2 (a3 .ready none))))->
 FC prog ih #[vi ak,vu x_38] H42 vRy_2)->
 FE prog d5 #[ih] H41 (λ_ hs=>
 (hs[lp_2]?=some (a3 .ready none)/\ ∀g1,g1=aL hs lp_2 (a3 .exhausted none)->
 ∃(bj:zw) (m80:Int->zV->Nat),bj 0 g1/\ ∀aq H54,bj aq H54->
 ∃ex az e0,hat H54 ((ad r).add 3)=some (vs ex az e0)/\
 ∃dn,hat H54 (ad b)=some (vp dn)/\
 ∃du,hat H54 (ad e)=some (vu du)/\
 cL.C dn du H54 (λh4 ei=> ∃b4,h4=vi b4/\aM ei ((ad r).add 3) 0 [vs ex az e0]/\
 if(az:Int)<b4 then(
 ∃cd,hat ei (ad b)=some (vp cd)/\
 ∃c5,hat ei (ad e)=some (vu c5)/\
 ∃eh,hat ei ((ad r).add 1)=some (vi eh)/\
 dD.C cd c5 eh aq ei (λjb jj=> ∃d2 gu,jb=.tuple #[vu d2,vi gu]/\
 aV.C (some (ad r)) d2 0 jj (λ_ h5=>
 (bj (zY (aq+1)) h5/\m80 (zY (aq+1)) h5<m80 aq H54))))
 else
 ∃cp bu bp bi ba bf ck ch cm,aM ei (ad r) 0 [vi cp,vi bu,vu bp,vs bi ba bf,vs ck ch cm]/\
 ∀ga H58,ga=ei.size->H58=ei.push (.cells #[vi cp,vi bu,vu bp,vs bi ba bf,vs ck ch cm] 147)->
 bI 5 147 72 [vi 0,vi 0,vu 0,VN,VN] f outN outC (some (ad ga)) 1 H58 (λdw cz hz=>
 (c6 dw (outN+1) cz (zY (s42+1)) (f1.size::ms) hz/\m32 dw (outN+1) cz (zY (s42+1)) (f1.size::ms) hz<m32 f outN outC s42 ms H9))))))))))/\(
 ∀p H60,p=fw.size->H60=fw.push (.cells #[vi 0,vi 0,vu 0,VN,VN] 147)->aM H60 (ad b) 0 [vp a5]/\aM H60 (ad e) 0 [vu a6]/\aM H60 (ad b) 0 [vp aw]/\aM H60 (ad e) 0 [vu ai]/\
 bU.C a5 a6 H60 (λio ha=> ∃b5,io=vi b5/\aM ha (ad b) 0 [vp aw]/\aM ha (ad e) 0 [vu ai]/\
 eE.C aw ai ha (λic g3=> ∃cg,ic=vu cg/\
 (aH g3 (ad p) 0 5)/\ ∀f3,f3=aP g3 (ad p) [vi ag,vi b5,vu cg,VN,VN] 0->
 ∃d0,hat f3 (ad b)=some (vp d0)/\
 ∃fo,hat f3 (ad e)=some (vu fo)/\
 bQ.C d0 fo f3 (λdv fx=>dv=dv/\
 ∀(a4:LoopState->Option Code->Obj) (lp_3:Nat) (H65:zV),lp_3=fx.size+1->H65=(fx.push (.deferred (some []))).push (a4 .ready none)->
 ∀i0,(∀(an:Int) (x_59:Int) (H66:zV) (vRy_3:zv),H66[lp_3]?=some (a4 .ready none)->
 (H66[lp_3]?=some (a4 .ready none)/\ ∀fu,fu=aL H66 lp_3 (a4 .busy none)->
 ∃fd,hat fu (ad m)=some (.map fd)/\
 ∃gd,fd=some gd/\
 ∃gm cl_4 ks_4,fu[gd]?=some (.map gm cl_4)/\va (aY .u64) gm.toList ks_4/\
 ∃ac,(yl ks_4 x_59).getD (vi 0)=vi ac/\
 if ac=0 then(
 ∃em,hat fu (ad e)=some (vu em)/\
 cK.C em fu (λi7 g7=> ∃dc,i7=vi dc/\
 if dc=2 then(
 ∃ev,hat g7 (ad e)=some (vu ev)/\
 eV.C ev g7 (λh2 g8=> ∃dk,h2=vi dk/\
 if an=dk then(
 ∃d3,hat g8 (ad b)=some (vp d3)/\
 bN.C d3 x_59 g8 (λig i4=> ∃da,ig=vi da/\
 if da>0 then(
 aV.C (some (ad p)) x_59 (-1) i4 (λ_ h0=>
 h0[lp_3]?=some (a4 .busy none)/\
 vRy_3 VT (aL h0 lp_3 (a4 .ready none))))
 else
 aV.C (some (ad p)) x_59 ac i4 (λ_ hj=>
 hj[lp_3]?=some (a4 .busy none)/\
 vRy_3 VT (aL hj lp_3 (a4 .ready none)))))
 else
 aV.C (some (ad p)) x_59 ac g8 (λ_ hq=>
 hq[lp_3]?=some (a4 .busy none)/\
 vRy_3 VT (aL hq lp_3 (a4 .ready none)))))
 else
 aV.C (some (ad p)) x_59 ac g7 (λ_ h3=>
 h3[lp_3]?=some (a4 .busy none)/\
 vRy_3 VT (aL h3 lp_3 (a4 .ready none)))))
 else
 aV.C (some (ad p)) x_59 ac fu (λ_ iq=>
 iq[lp_3]?=some (a4 .busy none)/\
 vRy_3 VT (aL iq lp_3 (a4 .ready none))))->
 FC prog i0 #[vi an,vu x_59] H66 vRy_3)->
 FE prog dv #[i0] H65 (λ_ i1=>
 (i1[lp_3]?=some (a4 .ready none)/\ ∀hc,hc=aL i1 lp_3 (a4 .exhausted none)->
 ∃(bj:zw) (m80:Int->zV->Nat),bj 0 hc/\ ∀au H78,bj au H78->
 ∃fc ay er,hat H78 ((ad p).add 3)=some (vs fc ay er)/\
 ∃c8,hat H78 (ad b)=some (vp c8)/\
 ∃d1,hat H78 (ad e)=some (vu d1)/\
 cL.C c8 d1 H78 (λi6 el=> ∃b3,i6=vi b3/\aM el ((ad p).add 3) 0 [vs fc ay er]/\
 if(ay:Int)<b3 then(
 ∃b7,hat el (ad b)=some (vp b7)/\
 ∃c4,hat el (ad e)=some (vu c4)/\
 ∃eg,hat el ((ad p).add 1)=some (vi eg)/\
 dD.C b7 c4 eg au el (λht jg=> ∃dx gw,ht=.tuple #[vu dx,vi gw]/\
 aV.C (some (ad p)) dx 0 jg (λ_ hg=>
 (bj (zY (au+1)) hg/\m80 (zY (au+1)) hg<m80 au H78))))
 else
 ∃ct bn bx bg bh a8 cx cs cr,aM el (ad p) 0 [vi ct,vi bn,vu bx,vs bg bh a8,vs cx cs cr]/\
 ∀fl H82,fl=el.size->H82=el.push (.cells #[vi ct,vi bn,vu bx,vs bg bh a8,vs cx cs cr] 147)->
 bI 5 147 72 [vi 0,vi 0,vu 0,VN,VN] f outN outC (some (ad fl)) 1 H82 (λef c0 iw=>
 (c6 ef (outN+1) c0 (zY (s42+1)) (fx.size::ms) iw/\m32 ef (outN+1) c0 (zY (s42+1)) (fx.size::ms) iw<m32 f outN outC s42 ms H9)))))))))))/\(
 ∀o H84,o=db.size->H84=db.push (.cells #[vi 0,vi 0,vu 0,VN,VN] 147)->aM H84 (ad e) 0 [vu b0]/\aM H84 (ad b) 0 [vp a5]/\aM H84 (ad e) 0 [vu a6]/\aM H84 (ad b) 0 [vp aw]/\aM H84 (ad e) 0 [vu ai]/\
 cK.C b0 H84 (λi3 gb=> ∃bk,i3=vi bk/\aM gb (ad b) 0 [vp a5]/\aM gb (ad e) 0 [vu a6]/\aM gb (ad b) 0 [vp aw]/\aM gb (ad e) 0 [vu ai]/\
 bU.C a5 a6 gb (λij hd=> ∃b6,ij=vi b6/\aM hd (ad b) 0 [vp aw]/\aM hd (ad e) 0 [vu ai]/\
 eE.C aw ai hd (λh9 g5=> ∃b9,h9=vu b9/\
 (aH g5 (ad o) 0 5)/\ ∀f7,f7=aP g5 (ad o) [vi bk,vi b6,vu b9,VN,VN] 0->
 ∃eb,hat f7 (ad b)=some (vp eb)/\
 ∃et,hat f7 (ad e)=some (vu et)/\
 bQ.C eb et f7 (λdt f0=>dt=dt/\
 ∀(a2:LoopState->Option Code->Obj) (lp_4:Nat) (H90:zV),lp_4=f0.size+1->H90=(f0.push (.deferred (some []))).push (a2 .ready none)->
 ∀hp,(∀(al:Int) (x_81:Int) (H91:zV) (vRy_4:zv),H91[lp_4]?=some (a2 .ready none)->
 (H91[lp_4]?=some (a2 .ready none)/\ ∀ft,ft=aL H91 lp_4 (a2 .busy none)->
 ∃fh,hat ft (ad m)=some (.map fh)/\
 ∃gi,fh=some gi/\
 ∃gv cl_5 ks_5,ft[gi]?=some (.map gv cl_5)/\va (aY .u64) gv.toList ks_5/\
 ∃ae,(yl ks_5 x_81).getD (vi 0)=vi ae/\
 if ae=0 then(
 ∃ew,hat ft (ad e)=some (vu ew)/\
 cK.C ew ft (λia g6=> ∃c7,ia=vi c7/\
 if c7=2 then(
 ∃e7,hat g6 (ad e)=some (vu e7)/\
 eV.C e7 g6 (λib he=> ∃dm,ib=vi dm/\
 if al=dm then(
 ∃ea,hat he (ad b)=some (vp ea)/\
 bN.C ea x_81 he (λhy ja=> ∃de,hy=vi de/\
 if de>0 then(
 aV.C (some (ad o)) x_81 (-1) ja (λ_ je=>
 je[lp_4]?=some (a2 .busy none)/\
 vRy_4 VT (aL je lp_4 (a2 .ready none))))
 else
 aV.C (some (ad o)) x_81 ae ja (λ_ ho=>
 ho[lp_4]?=some (a2 .busy none)/\
 vRy_4 VT (aL ho lp_4 (a2 .ready none)))))
 else
 aV.C (some (ad o)) x_81 ae he (λ_ iv=>
 iv[lp_4]?=some (a2 .busy none)/\
 vRy_4 VT (aL iv lp_4 (a2 .ready none)))))
 else
 aV.C (some (ad o)) x_81 ae g6 (λ_ ie=>
 ie[lp_4]?=some (a2 .busy none)/\
 vRy_4 VT (aL ie lp_4 (a2 .ready none)))))
 else
 aV.C (some (ad o)) x_81 ae ft (λ_ gx=>
 gx[lp_4]?=some (a2 .busy none)/\
 vRy_4 VT (aL gx lp_4 (a2 .ready none))))->
 FC prog hp #[vi al,vu x_81] H91 vRy_4)->
 FE prog dt #[hp] H90 (λ_ gl=>
 (gl[lp_4]?=some (a2 .ready none)/\ ∀gf,gf=aL gl lp_4 (a2 .exhausted none)->
 ∃(bj:zw) (m80:Int->zV->Nat),bj 0 gf/\ ∀av H103,bj av H103->
 ∃fp a0 fj,hat H103 ((ad o).add 3)=some (vs fp a0 fj)/\
 ∃di,hat H103 (ad b)=some (vp di)/\
 ∃d6,hat H103 (ad e)=some (vu d6)/\
 cL.C di d6 H103 (λi5 c3=> ∃bz,i5=vi bz/\aM c3 ((ad o).add 3) 0 [vs fp a0 fj]/\
 if(a0:Int)<bz then(
 ∃ce,hat c3 (ad b)=some (vp ce)/\
 ∃cy,hat c3 (ad e)=some (vu cy)/\
 ∃ec,hat c3 ((ad o).add 1)=some (vi ec)/\
 dD.C ce cy ec av c3 (λii ir=> ∃dz gy,ii=.tuple #[vu dz,vi gy]/\
 aV.C (some (ad o)) dz 0 ir (λ_ gn=>
 (bj (zY (av+1)) gn/\m80 (zY (av+1)) gn<m80 av H103))))
 else
 ∃co bt bs bc be bd ci cn cu,aM c3 (ad o) 0 [vi co,vi bt,vu bs,vs bc be bd,vs ci cn cu]/\
 ∀fe H107,fe=c3.size->H107=c3.push (.cells #[vi co,vi bt,vu bs,vs bc be bd,vs ci cn cu] 147)->
 bI 5 147 72 [vi 0,vi 0,vu 0,VN,VN] f outN outC (some (ad fe)) 1 H107 (λee c1 gr=>
 (c6 ee (outN+1) c1 (zY (s42+1)) (f0.size::ms) gr/\m32 ee (outN+1) c1 (zY (s42+1)) (f0.size::ms) gr<m32 f outN outC s42 ms H9)))))))))))
 else
 Shut (ms) H9 (λhx=>
 R (vs f outN outC) hx))
theorem fP.link{hv af:zW}{q y:Nat}{H:zV}{R:zv}(h:pt hv af q y H R):C hv af q y H R:=by
 refine p0 K0 111 func79 ?_
 intro w0 Q hQ
 unfold pt zY at h
 refine kT [(0,vp hv),(1,vs af q y)]<|ar 0<|sv (some 2) (λb=>vp (pa b)) (.cells #[vp hv] 23)<|λb H1 e1 e2=>have h:=h b H1 e1 e2;kb [0] [(2,vp (pa b))]<|eT 1 [] []<|ar 1<|have⟨x,q3,h⟩:=h;hH 21 23 q3 []<|eH 1 [] [(22,vs af q y)]<|Bt 23 [21,22] h λaj d n rb H2 h=>eH 3 [23] [(24,vs aj d n),(25,.map rb)]<|sv (some 6) (λb=>vp (pa b)) (.cells #[.map none] 149)<|λm H3 e4 e5=>have h:=h m H3 e4 e5;kb [] [(6,vp (pa m))]<|eH 1 [24] [(5,vs aj d n)]<|have⟨q7,h⟩:=h;eQ 149 (.map rb) q7<|λH4 e6=>have h:=h H4 e6;kb [25] []<|ym<|ar 2<|sv (some 7) (λb=>vp (pa b)) (.cells #[vi 0,vi 0,vu 0,VN,VN] 147)<|λa1 H5 e8 e9=>have h:=h a1 H5 e8 e9;kb [] [(7,vp (pa a1))]<|ym<|ge<|ar 3<|eT 3 [1] [(26,vs af q y),(27,vi q),(28,vi 0)]<|o0 0<|have⟨gj,m13,i10,i11⟩:=h;bJ (x:=zd) (σ:=Int) (λs_=> [(2,vp (pa b)),(5,vs aj d n),(6,vp (pa m)),(7,vp (pa a1)),(26,vs af q y),(27,vi q),(28,vi s_)]) (λs_ H=>gj s_ H) (λs_ H=>m13 s_ H) (0:Int) (by kernel_rfl) i10 sk ?_
 rintro ao H6 i12
 have h:=i11 ao H6 i12
 refine kT [(2,vp (pa b)),(5,vs aj d n),(6,vp (pa m)),(7,vp (pa a1)),(26,vs af q y),(27,vi q),(28,vi ao)]<|ar 4<|eT 1 [] [(29,.bool (decide (ao< (q:Int))))]<|ge<|qx h (λc13 h=>?_) (λc13 h=>?_)
 ·refine aJ 29 (zX c13)<|kd<|ge<|o0 1<|ar 5<|yA [29] [] ?_
  obtain⟨ah,rfl,q15,hc⟩:=h
  refine yp (some 30) 32 28 1 ah q y .i64 ao underlying32 q15.1 q15.2 [26] [(26,vs (some ah) q y),(30,Vq (ah.add (Int.toNat ao*1)))]<|have⟨bl,q16,h⟩:=hc;hH 31 28 q16 [30]<|eT 1 [31] [(9,vu bl)]<|nx 6<|eH 1 [] [(32,vu bl)]<|have⟨f6,q17,h⟩:=h;hH 33 149 q17 []<|eH 1 [9] [(34,vu bl)] ?_
  obtain⟨mr,rfl,es,cl,ks,q18,q19,gc,e21,he⟩:=h
  refine yI 35 (jP 149 (.map (some mr)) (vu bl) false) (vi gc) (λw hw=>(hX (kk:=(aY .u64)) (z:=vi 0) underlying149 underlying28 (λ_=>by kernel_rfl) (by rw[hw];exact q18) q19 false).trans (by simp only[if_true,Bool.false_eq_true,if_false,e21])) [33,34]<|zf (some 36) he ?_;clear he
  exact λv_2 H7 h=>kb [32,35] []<|zq<|aA<|aC<|nx 7<|eT 2 [28] [(28,vi (zY (ao+1)))]<|aR ((zY (ao+1)):Int) sk h
 refine aK 29 (zQ c13)<|zk 0<|aB<|aB<|aN<|aC<|ar 8<|yA [26,27,28,29] []<|have⟨ff,dq,dp,bw,bq,br,fi,fm,eu,q23,h⟩:=h;zr 38 147 q23 [7]<|sv (some 39) (λb=>vs (pa b) 1 1) (.cells #[vi ff,vi dq,vu dp,vs bw bq br,vs fi fm eu] 147)<|λfq H8 e24 e25=>have h:=h fq H8 e24 e25;kb [38] [(39,vs (pa fq) 1 1)]<|eT 1 [39] [(10,vs (pa fq) 1 1)]<|ge<|ar 9<|eT 3 [5] [(40,vs aj d n),(41,vi d),(42,vi 0)]<|o0 2<|have⟨c6,m32,i26,i27⟩:=h;rx (x:=zI) (σ:=zW×Nat×Nat×Int×(List Nat)) (λs_=> [(2,vp (pa b)),(6,vp (pa m)),(10,vs s_.1 s_.2.1 s_.2.2.1),(40,vs aj d n),(41,vi d),(42,vi s_.2.2.2.1)]) (λs_=>s_.2.2.2.2) (λs_ H=>c6 s_.1 s_.2.1 s_.2.2.1 s_.2.2.2.1 s_.2.2.2.2 H) (λs_ H=>m32 s_.1 s_.2.1 s_.2.2.1 s_.2.2.2.1 s_.2.2.2.2 H) (((pa fq),1,1,0,([])):zW×Nat×Nat×Int×(List Nat)) (by kernel_rfl) i26 sk ?_
 rintro⟨f,outN,outC,s42,ms⟩ H9 i28
 have h:=i27 f outN outC s42 ms H9 i28
 refine kT [(2,vp (pa b)),(6,vp (pa m)),(10,vs f outN outC),(40,vs aj d n),(41,vi d),(42,vi s42)]<|ar 10<|eT 1 [] [(43,.bool (decide (s42< (d:Int))))]<|ge<|qx h (λc29 h=>?_) (λc29 h=>?_)
 ·refine aJ 43 (zX c29)<|kd<|ge<|o0 3<|ar 11<|yA [43] [] ?_
  obtain⟨j,rfl,q31,hf⟩:=h
  refine yp (some 44) 32 28 1 j d n .i64 s42 underlying32 q31.1 q31.2 [40] [(40,vs (some j) d n),(44,Vq (j.add (Int.toNat s42*1)))]<|have⟨ej,q32,h⟩:=hf;hH 45 28 q32 [44]<|sv (some 12) (λb=>vp (pa b)) (.cells #[vu 0] 28)<|λe H10 e33 e34=>have h:=h e H10 e33 e34;kb [] [(12,vp (pa e))]<|have⟨q36,h⟩:=h;eQ 28 (vu ej) q36<|λdb e35=>have h:=h db e35;kb [45] []<|ym<|ge<|have⟨b0,q37,a5,q38,a6,q39,aw,q40,ai,q41,h⟩:=h;yq 12 (Code.ops As) [(1,(ad e),[vu b0]),(4,(ad b),[vp a5]),(4,(ad e),[vu a6]),(7,(ad b),[vp aw]),(7,(ad e),[vu ai])] 11 (bv 11 0) (show aE _ _ _ from⟨⟨q37,trivial⟩,⟨q38,trivial⟩,⟨q39,trivial⟩,⟨q40,trivial⟩,⟨q41,trivial⟩,trivial⟩)<|zh 0 (some 46) (vu b0) (bv 11 1) [(2,vp (pa b)),(6,vp (pa m)),(10,vs f outN outC),(12,vp (pa e)),(40,vs (some j) d n),(41,vi d),(42,vi s42),(46,vu b0)] (aQ 28 (vp (pa e))) (yY 1 yX)<|nc 2 48 (vp a5) (bv 11 5) [] (aQ 23 (vp (pa b))) (yY 4 yQ)<|nc 3 49 (vu a6) (bv 11 13) [] (aQ 28 (vp (pa e))) (yY 4 yJ)<|nc 5 51 (vp aw) (bv 11 45) [] (aQ 23 (vp (pa b))) (yY 7 yK)<|nc 6 52 (vu ai) (bv 11 109) [] (aQ 28 (vp (pa e))) (yY 7 yV)<|pj 1 9 (by kernel_rfl) ?fa1 ?fb1
  case' fa1=>
   replace h:=h.1
   refine pl 1 (some 47) (bv 11 111) 56 #[vu b0] (by kernel_rfl) (λ_=>by kernel_rfl) h (by kernel_rfl) ?_;clear h
   rintro jk fw ⟨ag,rfl,f42,f43,f44,f45,h⟩
   refine⟨[(2,vp (pa b)),(6,vp (pa m)),(10,vs f outN outC),(12,vp (pa e)),(40,vs (some j) d n),(41,vi d),(42,vi s42),(47,vi ag),(48,vp a5),(49,vu a6),(51,vp aw),(52,vu ai)],pk,(show aE _ _ _ from⟨trivial,f42,f43,f44,f45,trivial⟩),?_⟩
   refine pj 4 9 (by kernel_rfl) ?fa2 ?fb2
   case' fa2=>
    replace h:=h.1
    refine pl 4 (some 50) (bv 11 127) 30 #[vp a5,vu a6] (by kernel_rfl) (λ_=>by kernel_rfl) h (by kernel_rfl) ?_;clear h
    rintro jn f4 ⟨ax,rfl,f46,f47,h⟩
    refine⟨[(2,vp (pa b)),(6,vp (pa m)),(10,vs f outN outC),(12,vp (pa e)),(40,vs (some j) d n),(41,vi d),(42,vi s42),(47,vi ag),(50,vi ax),(51,vp aw),(52,vu ai)],pk,(show aE _ _ _ from⟨trivial,trivial,trivial,f46,f47,trivial⟩),?_⟩
    refine pj 7 9 (by kernel_rfl) ?fa3 ?fb3
    case' fa3=>
     replace h:=h.1
     refine pl 7 (some 53) (bv 11 255) 122 #[vp aw,vu ai] (by kernel_rfl) (λ_=>by kernel_rfl) h (by kernel_rfl) ?_;clear h
     rintro jl h6 ⟨b1,rfl,h⟩
     refine⟨[(2,vp (pa b)),(6,vp (pa m)),(10,vs f outN outC),(12,vp (pa e)),(40,vs (some j) d n),(41,vi d),(42,vi s42),(47,vi ag),(50,vi ax),(53,vu b1)],pk,(show aE _ _ _ from⟨trivial,trivial,trivial,trivial,trivial,trivial⟩),?_⟩
     refine zh 8 (some 54) (.agg #[vi ag,vi ax,vu b1,VN,VN]) (bv 11 511) [(2,vp (pa b)),(6,vp (pa m)),(10,vs f outN outC),(12,vp (pa e)),(40,vs (some j) d n),(41,vi d),(42,vi s42),(54,.agg #[vi ag,vi ax,vu b1,VN,VN])] (pure (.value (.agg #[vi ag,vi ax,vu b1,VN,VN])):Sem Next) (λ_ _ _ _ _=>rfl)<|mX 9 (some 13) (bv 11 1023) (λb=>vp (pa b)) (.cells #[vi 0,vi 0,vu 0,VN,VN] 147) (by kernel_rfl) (λ_=>by kernel_rfl) (by kernel_rfl)<|λu H15 e48 e49=>have h:=h u H15 e48 e49;⟨[(2,vp (pa b)),(6,vp (pa m)),(10,vs f outN outC),(12,vp (pa e)),(13,vp (pa u)),(40,vs (some j) d n),(41,vi d),(42,vi s42),(54,.agg #[vi ag,vi ax,vu b1,VN,VN])],pk,(show aE _ _ _ from⟨trivial,trivial,trivial,trivial,trivial,trivial⟩),?_⟩
    case' fb3=>
     refine have h:=h.2;rZ 9 (some 13) (bv 11 639) (λb=>vp (pa b)) (.cells #[vi 0,vi 0,vu 0,VN,VN] 147) (by kernel_rfl) (λ_=>by kernel_rfl) (by kernel_rfl)<|λu H37 e102 e103=>have h:=h u H37 e102 e103;have⟨f100,f101,h⟩:=h;⟨[(2,vp (pa b)),(6,vp (pa m)),(10,vs f outN outC),(12,vp (pa e)),(13,vp (pa u)),(40,vs (some j) d n),(41,vi d),(42,vi s42),(47,vi ag),(50,vi ax),(51,vp aw),(52,vu ai)],pk,(show aE _ _ _ from⟨trivial,trivial,trivial,f100,f101,trivial⟩),?_⟩
     refine yx 7 (some 53) (bv 11 767) 122 #[vp aw,vu ai] h ?_;clear h
     rintro hu H15 ⟨b1,rfl,h⟩
     refine⟨[(2,vp (pa b)),(6,vp (pa m)),(10,vs f outN outC),(12,vp (pa e)),(13,vp (pa u)),(40,vs (some j) d n),(41,vi d),(42,vi s42),(47,vi ag),(50,vi ax),(53,vu b1)],pk,(show aE _ _ _ from⟨trivial,trivial,trivial,trivial,trivial,trivial⟩),?_⟩
     refine zh 8 (some 54) (.agg #[vi ag,vi ax,vu b1,VN,VN]) (bv 11 1023) [(2,vp (pa b)),(6,vp (pa m)),(10,vs f outN outC),(12,vp (pa e)),(13,vp (pa u)),(40,vs (some j) d n),(41,vi d),(42,vi s42),(54,.agg #[vi ag,vi ax,vu b1,VN,VN])] (pure (.value (.agg #[vi ag,vi ax,vu b1,VN,VN])):Sem Next) (λ_ _ _ _ _=>rfl) ?_
   case' fb2=>
    refine have h:=h.2;rZ 9 (some 13) (bv 11 623) (λb=>vp (pa b)) (.cells #[vi 0,vi 0,vu 0,VN,VN] 147) (by kernel_rfl) (λ_=>by kernel_rfl) (by kernel_rfl)<|λu H60 e158 e159=>have h:=h u H60 e158 e159;have⟨f154,f155,f156,f157,h⟩:=h;⟨[(2,vp (pa b)),(6,vp (pa m)),(10,vs f outN outC),(12,vp (pa e)),(13,vp (pa u)),(40,vs (some j) d n),(41,vi d),(42,vi s42),(47,vi ag),(48,vp a5),(49,vu a6),(51,vp aw),(52,vu ai)],pk,(show aE _ _ _ from⟨trivial,f154,f155,f156,f157,trivial⟩),?_⟩
    refine yx 4 (some 50) (bv 11 639) 30 #[vp a5,vu a6] h ?_;clear h
    rintro io ha ⟨ax,rfl,f160,f161,h⟩
    refine⟨[(2,vp (pa b)),(6,vp (pa m)),(10,vs f outN outC),(12,vp (pa e)),(13,vp (pa u)),(40,vs (some j) d n),(41,vi d),(42,vi s42),(47,vi ag),(50,vi ax),(51,vp aw),(52,vu ai)],pk,(show aE _ _ _ from⟨trivial,trivial,trivial,f160,f161,trivial⟩),?_⟩
    refine yx 7 (some 53) (bv 11 767) 122 #[vp aw,vu ai] h ?_;clear h
    rintro ic H15 ⟨b1,rfl,h⟩
    refine⟨[(2,vp (pa b)),(6,vp (pa m)),(10,vs f outN outC),(12,vp (pa e)),(13,vp (pa u)),(40,vs (some j) d n),(41,vi d),(42,vi s42),(47,vi ag),(50,vi ax),(53,vu b1)],pk,(show aE _ _ _ from⟨trivial,trivial,trivial,trivial,trivial,trivial⟩),?_⟩
    refine zh 8 (some 54) (.agg #[vi ag,vi ax,vu b1,VN,VN]) (bv 11 1023) [(2,vp (pa b)),(6,vp (pa m)),(10,vs f outN outC),(12,vp (pa e)),(13,vp (pa u)),(40,vs (some j) d n),(41,vi d),(42,vi s42),(54,.agg #[vi ag,vi ax,vu b1,VN,VN])] (pure (.value (.agg #[vi ag,vi ax,vu b1,VN,VN])):Sem Next) (λ_ _ _ _ _=>rfl) ?_
  case' fb1=>
   refine have h:=h.2;rZ 9 (some 13) (bv 11 621) (λb=>vp (pa b)) (.cells #[vi 0,vi 0,vu 0,VN,VN] 147) (by kernel_rfl) (λ_=>by kernel_rfl) (by kernel_rfl)<|λu H84 e217 e218=>have h:=h u H84 e217 e218;have⟨f212,f213,f214,f215,f216,h⟩:=h;⟨[(2,vp (pa b)),(6,vp (pa m)),(10,vs f outN outC),(12,vp (pa e)),(13,vp (pa u)),(40,vs (some j) d n),(41,vi d),(42,vi s42),(46,vu b0),(48,vp a5),(49,vu a6),(51,vp aw),(52,vu ai)],pk,(show aE _ _ _ from⟨f212,f213,f214,f215,f216,trivial⟩),?_⟩
   refine yx 1 (some 47) (bv 11 623) 56 #[vu b0] h ?_;clear h
   rintro i3 gb ⟨ag,rfl,f219,f220,f221,f222,h⟩
   refine⟨[(2,vp (pa b)),(6,vp (pa m)),(10,vs f outN outC),(12,vp (pa e)),(13,vp (pa u)),(40,vs (some j) d n),(41,vi d),(42,vi s42),(47,vi ag),(48,vp a5),(49,vu a6),(51,vp aw),(52,vu ai)],pk,(show aE _ _ _ from⟨trivial,f219,f220,f221,f222,trivial⟩),?_⟩
   refine yx 4 (some 50) (bv 11 639) 30 #[vp a5,vu a6] h ?_;clear h
   rintro ij hd ⟨ax,rfl,f223,f224,h⟩
   refine⟨[(2,vp (pa b)),(6,vp (pa m)),(10,vs f outN outC),(12,vp (pa e)),(13,vp (pa u)),(40,vs (some j) d n),(41,vi d),(42,vi s42),(47,vi ag),(50,vi ax),(51,vp aw),(52,vu ai)],pk,(show aE _ _ _ from⟨trivial,trivial,trivial,f223,f224,trivial⟩),?_⟩
   refine yx 7 (some 53) (bv 11 767) 122 #[vp aw,vu ai] h ?_;clear h
   rintro h9 H15 ⟨b1,rfl,h⟩
   refine⟨[(2,vp (pa b)),(6,vp (pa m)),(10,vs f outN outC),(12,vp (pa e)),(13,vp (pa u)),(40,vs (some j) d n),(41,vi d),(42,vi s42),(47,vi ag),(50,vi ax),(53,vu b1)],pk,(show aE _ _ _ from⟨trivial,trivial,trivial,trivial,trivial,trivial⟩),?_⟩
   refine zh 8 (some 54) (.agg #[vi ag,vi ax,vu b1,VN,VN]) (bv 11 1023) [(2,vp (pa b)),(6,vp (pa m)),(10,vs f outN outC),(12,vp (pa e)),(13,vp (pa u)),(40,vs (some j) d n),(41,vi d),(42,vi s42),(54,.agg #[vi ag,vi ax,vu b1,VN,VN])] (pure (.value (.agg #[vi ag,vi ax,vu b1,VN,VN])):Sem Next) (λ_ _ _ _ _=>rfl) ?_
  all_goals
   refine have⟨q51,h⟩:=h;fF 10 none (bv 11 2047) (jH 147 (vp (pa u)) (.agg #[vi ag,vi ax,vu b1,VN,VN])) (λHz=>Hz=aP H15 (ad u) [vi ag,vi ax,vu b1,VN,VN] 0) (by kernel_rfl) (λ_=>by kernel_rfl) (iO [vi ag,vi ax,vu b1,VN,VN] 5 (by kernel_rfl) (by kernel_rfl) (λ_=>by kernel_rfl) (by kernel_rfl) q51) (by kernel_rfl)<|λf9 e50=>have h:=h f9 e50;⟨[(2,vp (pa b)),(6,vp (pa m)),(10,vs f outN outC),(12,vp (pa e)),(13,vp (pa u)),(40,vs (some j) d n),(41,vi d),(42,vi s42)],pk,(show aE _ _ _ from⟨trivial,trivial,trivial,trivial,trivial,trivial⟩),?_⟩
   refine eP [(2,vp (pa b)),(6,vp (pa m)),(10,vs f outN outC),(12,vp (pa e)),(13,vp (pa u)),(40,vs (some j) d n),(41,vi d),(42,vi s42)] sk<|yz<|aC<|ge<|ar 13<|have⟨dy,q52,h⟩:=h;Cd (some 55) 23 q52 [(2,vp (pa b)),(6,vp (pa m)),(10,vs f outN outC),(12,vp (pa e)),(13,vp (pa u)),(40,vs (some j) d n),(41,vi d),(42,vi s42),(55,vp dy)] ?_
   obtain⟨e3,q53,h⟩:=h
   refine hH 56 28 q53 []<|zf (some 57) h ?_;clear h
   rintro fz fy ⟨-,h⟩
   refine kb [55,56] [(57,fz)]<|ym<|o0 4<|ls (g:=.tmp 57) (ps:= #[58,59]) (assign:=BQ) (body:=K51) (fz) (by kernel_rfl) (by kernel_rfl) (by kernel_rfl)<|λrc lp H18 r54 e55 e56 y57=>FE.mono (h rc lp H18 e55 e56 (.func (.yield lp) #[] #[]) ?_) ?_
   ·clear h
    refine λam x_18 H19 vRy q58 h=>y57 #[vi am,vu x_18] H19 vRy (by kernel_rfl) q58 (λw1x=>?_)
    refine zP [] [(58,vi am),(59,vu x_18)]<|ar 14<|eT 1 [10,40,41,42,57,58] [(14,vi am)]<|nx 15<|eH 1 [59] [(15,vu x_18)]<|zq<|have⟨q60,h⟩:=h;aC<|lr r54 q60<|λfv e59=>have h:=h fv e59;o0 5<|ar 16<|have⟨en,q61,h⟩:=h;hH 60 149 q61 [6]<|eH 1 [] [(61,vu x_18)] ?_
    obtain⟨gg,rfl,gz,cl_2,ks_2,q62,q63,aa,e81,hg⟩:=h
    have h:=hg
    refine yI 62 (jP 149 (.map (some gg)) (vu x_18) false) (vi aa) (λw hw=>(hX (kk:=(aY .u64)) (z:=vi 0) underlying149 underlying28 (λ_=>by kernel_rfl) (by rw[hw];exact q62) q63 false).trans (by simp only[if_true,Bool.false_eq_true,if_false,e81])) [60,61]<|eT 1 [62] [(16,vi aa)]<|ge<|ar 17<|eH 3 [] [(65,.bool (aa==0))] ?_
    revert h;refine AV (λc65 h=>?_) (λc65 h=>?_)
    ·refine oo 65 (zK c65)<|have⟨fk,q67,h⟩:=h;hH 66 28 q67 []<|sa 67 [66] h λc9 hb h=>eH 3 [65,67] [(70,.bool (c9==2))]<|qx h (λc68 h=>?_) (λc68 h=>?_)
     ·refine oo 70 (zK c68)<|eH 1 [14] [(71,vi am)]<|have⟨fg,q70,h⟩:=h;hH 72 28 q70 [12]<|sa 73 [72] h λdg g9 h=>eH 3 [70,71,73] [(76,.bool (am==dg))]<|qx h (λc71 h=>?_) (λc71 h=>?_)
      ·refine oo 76 (zK c71)<|have⟨dr,q73,h⟩:=h;hH 77 23 q73 [2]<|eH 1 [] [(78,vu x_18)]<|sa 79 [77,78] h λdj ix h=>eT 2 [76,79] [(81,.bool (decide (dj>0)))]<|qx h (λc74 h=>?_) (λc74 h=>?_)
       ·refine aJ 81 (zX c74)<|nx 18<|eT 1 [16,81] [(16,vi (-1))]<|nx 19<|eH 2 [15,16] [(82,vu x_18),(83,vi (-1))]<|zf (some 84) h ?_;clear h
        refine λv_10 im h=>⟨[],pk,?_⟩
        exact zq<|aA<|have⟨q76,h⟩:=h;bT r54 q76 h
       refine aK 81 (zQ c74)<|kd<|nx 19<|eH 2 [15,16,81] [(82,vu x_18),(83,vi aa)]<|zf (some 84) h ?_;clear h
       refine λv_11 jd h=>⟨[],pk,?_⟩
       exact zq<|aA<|have⟨q77,h⟩:=h;bT r54 q77 h
      refine oo 76 (zJ c71)<|eT 5 [2,76] [(81,VF)]<|yn 81<|kd<|nx 19<|eH 2 [15,16,81] [(82,vu x_18),(83,vi aa)] ?_
      refine zf (some 84) h ?_;clear h
      refine λv_12 jc h=>⟨[],pk,?_⟩
      exact zq<|aA<|have⟨q78,h⟩:=h;bT r54 q78 h
     refine oo 70 (zJ c68)<|eT 11 [2,12,14,70] [(81,VF)]<|yn 81<|kd<|nx 19<|eH 2 [15,16,81] [(82,vu x_18),(83,vi aa)] ?_
     refine zf (some 84) h ?_;clear h
     refine λv_13 ip h=>⟨[],pk,?_⟩
     exact zq<|aA<|have⟨q79,h⟩:=h;bT r54 q79 h
    refine oo 65 (zJ c65)<|eT 16 [2,12,14,65] [(81,VF)]<|yn 81<|kd<|nx 19<|eH 2 [15,16,81] [(82,vu x_18),(83,vi aa)] ?_
    refine zf (some 84) h ?_;clear h
    refine λv_14 il h=>⟨[],pk,?_⟩
    exact zq<|aA<|have⟨q80,h⟩:=h;bT r54 q80 h
   clear h y57
   rintro _ h8 (⟨q83,h⟩)
   refine .inl ⟨q83,λg4 e99=>?_⟩
   refine have h:=h g4 e99;kB (fy.size::ms) rfl<|zP [57] []<|aA<|aC<|ge<|ar 20<|eT 1 [] [(17,vi 0)]<|o0 6<|have⟨gk,m69,i84,i85⟩:=h;bJ (x:=Bm) (σ:=Int) (λs_=> [(2,vp (pa b)),(6,vp (pa m)),(10,vs f outN outC),(12,vp (pa e)),(13,vp (pa u)),(17,vi s_),(40,vs (some j) d n),(41,vi d),(42,vi s42)]) (λs_ H=>gk s_ H) (λs_ H=>m69 s_ H) (0:Int) (by kernel_rfl) i84 sk ?_
   rintro i H31 i86
   have h:=i85 i H31 i86
   refine kT [(2,vp (pa b)),(6,vp (pa m)),(10,vs f outN outC),(12,vp (pa e)),(13,vp (pa u)),(17,vi i),(40,vs (some j) d n),(41,vi d),(42,vi s42)]<|ge<|ge ?_
   obtain⟨xB,xN,xC,q87,dd,q88,d9,q89,h⟩:=h
   refine yq 21 (Code.ops BR) [(7,((ad u).add 3),[vs xB xN xC]),(5,(ad b),[vp dd]),(5,(ad e),[vu d9])] 7 (bv 7 0) (show aE _ _ _ from⟨⟨q87,trivial⟩,⟨q88,trivial⟩,⟨q89,trivial⟩,trivial⟩)<|y9 0 (some 85) (Vq ((ad u).add 3)) (bv 7 1) [(2,vp (pa b)),(6,vp (pa m)),(10,vs f outN outC),(12,vp (pa e)),(13,vp (pa u)),(17,vi i),(40,vs (some j) d n),(41,vi d),(42,vi s42),(85,Vq ((ad u).add 3))]<|nc 1 86 (vs xB xN xC) (bv 7 3) [85] (aQ 32 (Vq ((ad u).add 3))) (lD 7 (λ_=>by kernel_rfl) yX (.inr (by kernel_rfl)))<|aG 2 87 (vi xN) (bv 7 7) [86]<|nc 3 88 (vp dd) (bv 7 15) [] (aQ 23 (vp (pa b))) (yY 5 yQ)<|nc 4 89 (vu d9) (bv 7 31) [] (aQ 28 (vp (pa e))) (yY 5 yJ)<|yx 5 (some 90) (bv 7 63) 101 #[vp dd,vu d9] h ?_;clear h
   rintro i8 ek ⟨b2,rfl,f90,h⟩
   refine⟨[(2,vp (pa b)),(6,vp (pa m)),(10,vs f outN outC),(12,vp (pa e)),(13,vp (pa u)),(17,vi i),(40,vs (some j) d n),(41,vi d),(42,vi s42),(87,vi xN),(90,vi b2)],pk,(show aE _ _ _ from⟨f90,trivial,trivial,trivial⟩),?_⟩
   refine zh 6 (some 91) (.bool (decide ((xN:Int)<b2))) (bv 7 127) [(2,vp (pa b)),(6,vp (pa m)),(10,vs f outN outC),(12,vp (pa e)),(13,vp (pa u)),(17,vi i),(40,vs (some j) d n),(41,vi d),(42,vi s42),(91,.bool (decide ((xN:Int)<b2)))] (pure (.value (.bool (decide ((xN:Int)<b2)))):Sem Next) (λ_ _ _ _ _=>rfl)<|eP [(2,vp (pa b)),(6,vp (pa m)),(10,vs f outN outC),(12,vp (pa e)),(13,vp (pa u)),(17,vi i),(40,vs (some j) d n),(41,vi d),(42,vi s42),(91,.bool (decide ((xN:Int)<b2)))] sk<|yz<|aC<|qx h (λc91 h=>?_) (λc91 h=>?_)
   ·refine aJ 91 (zX c91)<|kd<|ge<|o0 7<|ar 23<|Ab [(2,vp (pa b)),(6,vp (pa m)),(10,vs f outN outC),(12,vp (pa e)),(13,vp (pa u)),(17,vi i),(40,vs (some j) d n),(41,vi d),(42,vi s42)]<|have⟨b8,q93,h⟩:=h;hH 95 23 q93 []<|have⟨c2,q94,h⟩:=h;hH 96 28 q94 []<|eH 1 [] [(97,Vq ((ad u).add 1))] ?_
    obtain⟨d7,q95,h⟩:=h
    refine hH 98 3 q95 [97]<|eH 1 [] [(99,vi i)]<|yD 100 [95,96,98,99] h λra gp jh h=>eT 5 [100] [(18,vu ra)]<|nx 24<|eH 1 [18] [(103,vu ra)]<|zf (some 104) h ?_;clear h
    exact λv_17 iy h=>kb [103] []<|zq<|aA<|aC<|nx 22<|eT 3 [17] [(17,vi (zY (i+1)))]<|aR ((zY (i+1)):Int) sk h
   refine aK 91 (zQ c91)<|zk 6<|aB<|aB<|aN<|aC<|nx 25<|u8 1 [(2,vp (pa b)),(6,vp (pa m)),(13,vp (pa u)),(40,vs (some j) d n),(41,vi d),(42,vi s42),(105,vs f outN outC)]<|have⟨cv,bo,bm,a7,a9,bb,cj,cq,cw,q96,h⟩:=h;zr 106 147 q96 [13]<|sv (some 107) (λb=>vs (pa b) 1 1) (.cells #[vi cv,vi bo,vu bm,vs a7 a9 bb,vs cj cq cw] 147) ?_
   intro f8 H35 e97 e98
   replace h:=h f8 H35 e97 e98
   refine kb [106] [(107,vs (pa f8) 1 1)]<|yO (some 108) (cG #[144,144] 144 #[vs f outN outC,vs (pa f8) 1 1]) _ (λ_=>by kernel_rfl) (bK (T:=147) (sz:=5) (bytes:=72) (zero:=(.agg #[vi 0,vi 0,vu 0,VN,VN]:Value)) underlying144 underlying144 rfl (show prog.info? 147=some t147 from by kernel_rfl) (by kernel_rfl) (by kernel_rfl) (by decide) (by kernel_rfl) (by first | exact h | (simpa only[Value.cells,List.toList_toArray]using h))) ?_;clear h
   rintro _ hh ⟨ap,f2,rfl,h⟩
   exact kb [105,107] [(108,vs ap (outN+1) f2)]<|eH 1 [108] [(10,vs ap (outN+1) f2)]<|zq<|aA<|aC<|nx 26<|eT 2 [42] [(42,vi (zY (s42+1)))]<|lY (mk:=(λs_=>s_.2.2.2.2)) (I:=(λs_ H=>c6 s_.1 s_.2.1 s_.2.2.1 s_.2.2.2.1 s_.2.2.2.2 H)) (μ:=(λs_ H=>m32 s_.1 s_.2.1 s_.2.2.1 s_.2.2.2.1 s_.2.2.2.2 H)) (s:=(_,_,_,_,_)) ((ap,(outN+1),f2,(zY (s42+1)),(fy.size::ms)):zW×Nat×Nat×Int×(List Nat)) sk h
 refine aK 43 (zQ c29)<|zk 2<|aB<|aB<|aN<|aC<|ar 27<|u5 2 [(4,vs f outN outC)]<|zx ?_
 show At _ _ _ _ _ (Q .ret)
 refine lk (fn:=f79) (ms) hQ (Shut.mono (λhx h=>?_) h)
 exact⟨[vs f outN outC],(show bS _ _ _ [.tmp 4] _ from .tmp (by kernel_rfl) (.nil)),h⟩
