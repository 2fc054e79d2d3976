/- Printed: what each function asks, and that it is sound. -/
import Derived.Test.YtfhbhckhmnleoaaGreatFnsC
set_option linter.unusedSimpArgs false
set_option linter.unusedVariables false
set_option maxRecDepth 100000
set_option maxHeartbeats 1000000
noncomputable section
namespace Go.Proofs.YtfhbhckhmnleoaaGreat
open Go Go.Proofs.Tryz
variable{H:zV}{d i:zW}{R:zv}
namespace jo
def K0:=EP f15
def K2:=cb K0
def K3:=ca K2
def K5:=cb K3
def Aq:=cb K5
def Ab:=ca Aq
def Bs:=cb Aq
def Aa:=cb Ab
def An:=ca Aa
def Ar:=ca An
def BJ:=cb Bs
def Br:=cb BJ
def Bm:=ca Br
def BO:=cb Br
def AN:=cb Bm
def AE:=ca AN
def AG:=ca AE
def Bp:=cb AG
def BW:=cb Bp
def B7:=ca BW
def Cw:=ca B7
def BU:=cb Cw
def Ca:=cb BU
def Co:=ca Ca
def B9:=cb Co
def Cc:=cb B9
def B4:=ca Cc
def BA:=cb BO
def BZ:=ca BA
def Cr:=cb BZ
def BQ:=ca Cr
def K74:=ca BQ
def K76:=cb K74
def K78:=cb K76
def K81:=ca K78
def K83:=ca K81
def K85:=cb K83
def K87:=cb K85
def K88:=ca K87
end jo
def jo.pt(tv lB:zW)(lN lC:Nat)(H:zV)(R:zv):=
 ∀b H1,b=H.size->H1=H.push (.cells #[vp tv] 37)->
 ∀e H2,e=H1.size->H2=H1.push (.cells #[vs lB lN lC] 31)->
 ∃x,hat H2 (ad b)=some (vp x)/\
 iU.C x H2 (λv H3=> ∃bs,v=.bool bs/\
 if bs=true then(
 ∃xB xN xC,hat H3 (ad e)=some (vs xB xN xC)/\
 kO.C xB xN xC H3 (λcs H4=> ∃bi bh bj,cs=vs bi bh bj/\
 R (vs bi bh bj) H4))
 else
 ∃b9 z b8,hat H3 (ad e)=some (vs b9 z b8)/\
 0<=(z:Int)/\(z:Int)<=(z:Int)/\8*(z:Int)<=2 ^ 48/\(z:Int)<=9223372036854775807/\
 ∀bg H5,bg=H3.size->H5=H3.push (.cells (Builtin.zeroCells #[vi 0] (Int.toNat (z:Int))) 3)->
 ∀d H6,d=H5.size->H6=H5.push (.cells #[VN] 75)->
 (aH H6 (ad d) 0 1)/\ ∀H7,H7=aP H6 (ad d) [vs (some (ad bg)) (Int.toNat (z:Int)) (Int.toNat (z:Int))] 0->
 ∃al j s,hat H7 (ad e)=some (vs al j s)/\
 ∃(b6:zw) (m20:Int->zV->Nat),b6 0 H7/\ ∀m H8,b6 m H8->
 if m< (j:Int)then(
 ∃aa,al=some aa/\
 yZ m j/\
 ∃au ac,aL H8 (aa.add (Int.toNat m*2)) 0 [vu au,vu ac]/\
 ∀aq H9,aq=H8.size->H9=H8.push (.cells #[vu 0,vu 0] 36)->
 (aH H9 (ad aq) 0 2)/\ ∀b4,b4=aP H9 (ad aq) [vu au,vu ac] 0->
 ∃bq,hat b4 (ad b)=some (vp bq)/\
 ∃b5,hat b4 (ad aq)=some (vu b5)/\
 bK.C bq b5 b4 (λct bw=> ∃bc,ct=.bool bc/\
 if bc=true then(
 (b6 (zY (m+1)) bw/\m20 (zY (m+1)) bw<m20 m H8))
 else
 ∃bn a3 bd,hat bw (ad d)=some (vs bn a3 bd)/\
 ∃ay,bn=some ay/\
 yZ m a3/\
 (aH bw (ay.add (Int.toNat m*1)) 0 1)/\ ∀ce,ce=aP bw (ay.add (Int.toNat m*1)) [vi 1] 0->
 (b6 (zY (m+1)) ce/\m20 (zY (m+1)) ce<m20 m H8)))
 else
 ∃(cg:zV->Prop) (m38:zV->Nat),cg H8/\ ∀b3,cg b3->
 ∃aj o ae,hat b3 (ad e)=some (vs aj o ae)/\
 ∃(cd:zw) (m44:Int->zV->Nat),cd 0 b3/\ ∀p H14,cd p H14->
 if p< (o:Int)then(
 ∃af,aj=some af/\
 yZ p o/\
 ∃ag u,aL H14 (af.add (Int.toNat p*2)) 0 [vu ag,vu u]/\
 ∀ab H15,ab=H14.size->H15=H14.push (.cells #[vu 0,vu 0] 36)->
 (aH H15 (ad ab) 0 2)/\ ∀ch,ch=aP H15 (ad ab) [vu ag,vu u] 0->
 gQ.C p (some (ad d)) (some (ad b)) (some (ad e)) ch (λcu bx=> ∃bt,cu=.bool bt/\
 if bt=true then(
 ∃bm a4 bf,hat bx (ad d)=some (vs bm a4 bf)/\
 ∃ax,bm=some ax/\
 yZ p a4/\
 (aH bx (ax.add (Int.toNat p*1)) 0 1)/\ ∀b2,b2=aP bx (ax.add (Int.toNat p*1)) [vi 2] 0->
 ∃br,hat b2 (ad b)=some (vp br)/\
 ∃b0,hat b2 (ad ab)=some (vu b0)/\
 bA.C br b0 b2 (λcq cc=> ∃ao,cq=vu ao/\
 ∃ai,hat cc (ad b)=some (vp ai)/\
 ∃av,hat cc (ad b)=some (vp av)/\
 ∃a5,hat cc ((ad ab).add 1)=some (vu a5)/\
 bA.C av a5 cc (λcr co=> ∃bu,cr=vu bu/\aL co (ad b) 0 [vp ai]/\
 kg.C ai bu ao co (λ_ ck=>
 ∃bl,hat ck (ad b)=some (vp bl)/\
 cW.C bl ck (λ_ cm=>
 (cg cm/\m38 cm<m38 b3))))))
 else
 (cd (zY (p+1)) bx/\m44 (zY (p+1)) bx<m44 p H14)))
 else
 ∃ak f n,hat H14 (ad e)=some (vs ak f n)/\
 ∃(bz:zW->Nat->Nat->zw) (m75:zW->Nat->Nat->Int->zV->Nat),bz none 0 0 0 H14/\ ∀g outN outC s68 H23,bz g outN outC s68 H23->
 if s68< (f:Int)then(
 ∃q,ak=some q/\
 yZ s68 f/\
 ∃ah y,aL H23 (q.add (Int.toNat s68*2)) 0 [vu ah,vu y]/\
 ∀r H24,r=H23.size->H24=H23.push (.cells #[vu 0,vu 0] 36)->
 (aH H24 (ad r) 0 2)/\ ∀bb,bb=aP H24 (ad r) [vu ah,vu y] 0->
 ∃bo a8 be,hat bb (ad d)=some (vs bo a8 be)/\
 ∃a6,bo=some a6/\
 yZ s68 a8/\
 ∃az,hat bb (a6.add (Int.toNat s68*1))=some (vi az)/\
 if az<2 then(
 ∃a2,hat bb (ad b)=some (vp a2)/\
 ∃bk,hat bb ((ad r).add 1)=some (vu bk)/\
 bK.C a2 bk bb (λcv bp=> ∃a7,cv=.bool a7/\
 if a7=true then(
 ∃am,hat bp (ad b)=some (vp am)/\
 ∃aw,hat bp (ad r)=some (vu aw)/\
 ∃an,hat bp (ad b)=some (vp an)/\
 ∃a1,hat bp ((ad r).add 1)=some (vu a1)/\
 bA.C am aw bp (λcp ci=> ∃a0,cp=vu a0/\aL ci (ad b) 0 [vp an]/\aL ci ((ad r).add 1) 0 [vu a1]/\
 bA.C an a1 ci (λcn cj=> ∃a9,cn=vu a9/\
 ∀b1 H29,b1=cj.size->H29=cj.push (.cells #[vu a0,vu a9] 36)->
 bH 2 36 16 [vu 0,vu 0] g outN outC (some (ad b1)) 1 H29 (λap ba cl=>
 (bz ap (outN+1) ba (zY (s68+1)) cl/\m75 ap (outN+1) ba (zY (s68+1)) cl<m75 g outN outC s68 H23)))))
 else
 (bz g outN outC (zY (s68+1)) bp/\m75 g outN outC (zY (s68+1)) bp<m75 g outN outC s68 H23)))
 else
 (bz g outN outC (zY (s68+1)) bb/\m75 g outN outC (zY (s68+1)) bb<m75 g outN outC s68 H23))
 else
 R (vs g outN outC) H23)
theorem jo.link{lN lC:Nat}(h:pt d i lN lC H R):C d i lN lC H R:=by
 refine sa K0 98 func15 ?_
 intro w0 Q hQ
 unfold pt zY at h
 refine nx [(0,vp d),(1,vs i lN lC)]<|ar 0<|t1 (some 2) (λb=>vp (pa b)) (.cells #[vp d] 37)<|λb H1 e1 e2=>have h:=h b H1 e1 e2;kc [0] [(2,vp (pa b))]<|t1 (some 3) (λb=>vp (pa b)) (.cells #[vs i lN lC] 31)<|λe H2 e3 e4=>have h:=h e H2 e3 e4;kc [1] [(3,vp (pa e))]<|eT 1 [] []<|vL K3 0 (by kernel_rfl) (by kernel_rfl)<|ge<|ar 1<|have⟨x,q5,h⟩:=h;hH 15 37 q5 []<|sv 16 [15] h λbs H3 h=>yH<|qx h (λc6 h=>?_) (λc6 h=>?_)
 ·exact aJ 16 c6<|ar 2<|yS [2,16] []<|have⟨xB,xN,xC,q8,h⟩:=h;hH 17 31 q8 [3]<|BI 18 (λbi bh bj=>[(18,vs bi bh bj)]) h λbi bh bj H4 h=>kb 1 [4] [vs bi bh bj] hQ h
 refine aK 16 (zZ c6)<|nc<|ar 3<|yS [16] []<|have⟨b9,z,b8,q9,h⟩:=h;hH 19 31 q9 []<|eH 1 [19] [(20,vi z)]<|have⟨q10,q11,q12,q13,h⟩:=h;zi (some 21) (mn 75 (vi z) (vi z)) (λv Hz=>v=Value.slice (some (Addr.mk H3.size 0 none)) (Int.toNat (z:Int)) (Int.toNat (z:Int))/\Hz=H3.push (.cells (Builtin.zeroCells #[vi 0] (Int.toNat (z:Int))) 3)) (λ_=>by kernel_rfl) (uB (T:=3) (zero:=vi 0) C3 (show prog.info? 3=some t3 from by kernel_rfl) (by kernel_rfl) q10 q11 q12 q13 (by kernel_rfl) (by decide)) ?_
 rintro _ H5 ⟨rfl,e15⟩
 obtain⟨bg,e14⟩: ∃b,b=H3.size:=⟨_,rfl⟩
 replace h:=h bg H5 e14 e15
 rw[<-e14]
 refine kc [20] [(21,vs (pa bg) (Int.toNat (z:Int)) (Int.toNat (z:Int)))]<|t1 (some 5) (λb=>vp (pa b)) (.cells #[VN] 75)<|λlB H6 e16 e17=>have h:=h lB H6 e16 e17;kc [] [(5,vp (pa lB))]<|have⟨q19,h⟩:=h;eQ 75 (vs (pa bg) (Int.toNat (z:Int)) (Int.toNat (z:Int))) q19<|λH7 e18=>have h:=h H7 e18;kc [21] []<|yH<|ge<|ar 4<|have⟨al,j,s,q20,h⟩:=h;hH 22 31 q20 []<|eT 2 [] [(23,vi j),(24,vi 0)]<|p0 0<|have⟨b6,m20,i21,i22⟩:=h;bL (x:=Ar) (σ:=Int) (λs_=> [(2,vp (pa b)),(3,vp (pa e)),(5,vp (pa lB)),(22,vs al j s),(23,vi j),(24,vi s_)]) (λs_ H=>b6 s_ H) (λs_ H=>m20 s_ H) (0:Int) (by kernel_rfl) i21 sk ?_
 rintro m H8 i23
 have h:=i22 m H8 i23
 refine nx [(2,vp (pa b)),(3,vp (pa e)),(5,vp (pa lB)),(22,vs al j s),(23,vi j),(24,vi m)]<|ar 5<|eT 1 [] [(25,.bool (decide (m< (j:Int))))]<|ge<|qx h (λc24 h=>?_) (λc24 h=>?_)
 ·refine aJ 25 (zX c24)<|nc<|ge<|p0 1<|ar 6<|eH 1 [25] [(26,vi m)] ?_
  obtain⟨aa,rfl,q26,ha⟩:=h
  refine yI (some 27) 31 36 2 aa j s .i64 m D1 q26.1 q26.2 [22] [(22,vs (some aa) j s),(27,Vq (aa.add (Int.toNat m*2)))]<|have⟨au,ac,q27,h⟩:=ha;zN 28 36 q27 [27]<|t1 (some 7) (λb=>vp (pa b)) (.cells #[vu 0,vu 0] 36)<|λaq H9 e28 e29=>have h:=h aq H9 e28 e29;kc [] [(7,vp (pa aq))]<|eH 1 [26] [(6,vi m)]<|have⟨q31,h⟩:=h;fN 36 [vu au,vu ac] q31<|λb4 e30=>have h:=h b4 e30;kc [28] []<|yH<|ar 7<|have⟨bq,q32,h⟩:=h;hH 29 37 q32 []<|eH 1 [7] [(30,vp (pa aq))]<|have⟨b5,q33,h⟩:=h;hH 31 28 q33 [30]<|sv 32 [29,31] h λbc bw h=>eT 1 [32] [(33,.bool (!bc))]<|qx h (λc34 h=>?_) (λc34 h=>?_)
  ·exact aK 33 (CJ Bool.not (c34))<|zp<|aA<|aC<|oo 9<|eT 2 [6,24,33] [(24,vi (zY (m+1)))]<|aR ((zY (m+1)):Int) sk h
  refine aJ 33 (CJ Bool.not (zZ c34))<|oo 8<|yS [33] []<|have⟨bn,a3,bd,q36,h⟩:=h;hH 34 75 q36 []<|eH 1 [6] [(35,vi m)] ?_
  obtain⟨ay,rfl,q37,hb⟩:=h
  exact yI (some 36) 75 3 1 ay a3 bd .i64 m C3 q37.1 q37.2 [34,35] [(36,Vq (ay.add (Int.toNat m*1)))]<|have⟨q39,h⟩:=hb;eQ 3 (vi 1) q39<|λce e38=>have h:=h ce e38;kc [36] []<|zq<|aA<|aC<|oo 9<|eT 2 [24] [(24,vi (zY (m+1)))]<|aR ((zY (m+1)):Int) sk h
 refine aK 25 (zQ c24)<|zk 0<|aB<|aB<|aN<|aC<|ar 10<|eT 2 [22,23,24,25] [(8,.func (.func 61) #[] #[vp (pa lB),vp (pa b),vp (pa e)])]<|have⟨cg,m38,i40,i41⟩:=h;vM 0 Br [(2,vp (pa b)),(3,vp (pa e)),(5,vp (pa lB)),(8,.func (.func 61) #[] #[vp (pa lB),vp (pa b),vp (pa e)])] cg m38 (by kernel_rfl) (by kernel_rfl) i40 sk ?_
 rintro b3 i42
 have h:=i41 b3 i42
 refine ge<|ar 11<|have⟨aj,o,ae,q43,h⟩:=h;CC (some 39) 31 q43 [(2,vp (pa b)),(3,vp (pa e)),(5,vp (pa lB)),(8,.func (.func 61) #[] #[vp (pa lB),vp (pa b),vp (pa e)]),(39,vs aj o ae)]<|eT 2 [] [(40,vi o),(41,vi 0)]<|p0 2<|have⟨cd,m44,i44,i45⟩:=h;bL (x:=AG) (σ:=Int) (λs_=> [(2,vp (pa b)),(3,vp (pa e)),(5,vp (pa lB)),(8,.func (.func 61) #[] #[vp (pa lB),vp (pa b),vp (pa e)]),(39,vs aj o ae),(40,vi o),(41,vi s_)]) (λs_ H=>cd s_ H) (λs_ H=>m44 s_ H) (0:Int) (by kernel_rfl) i44 sk ?_
 rintro p H14 i46
 have h:=i45 p H14 i46
 refine nx [(2,vp (pa b)),(3,vp (pa e)),(5,vp (pa lB)),(8,.func (.func 61) #[] #[vp (pa lB),vp (pa b),vp (pa e)]),(39,vs aj o ae),(40,vi o),(41,vi p)]<|ar 12<|eT 1 [] [(42,.bool (decide (p< (o:Int))))]<|ge<|qx h (λc47 h=>?_) (λc47 h=>?_)
 ·refine aJ 42 (zX c47)<|nc<|ge<|p0 3<|ar 13<|eH 1 [42] [(43,vi p)] ?_
  obtain⟨af,rfl,q49,hc⟩:=h
  refine yI (some 44) 31 36 2 af o ae .i64 p D1 q49.1 q49.2 [39] [(39,vs (some af) o ae),(44,Vq (af.add (Int.toNat p*2)))]<|have⟨ag,u,q50,h⟩:=hc;zN 45 36 q50 [44]<|t1 (some 10) (λb=>vp (pa b)) (.cells #[vu 0,vu 0] 36)<|λab H15 e51 e52=>have h:=h ab H15 e51 e52;kc [] [(10,vp (pa ab))]<|eH 1 [43] [(9,vi p)]<|have⟨q54,h⟩:=h;fN 36 [vu ag,vu u] q54<|λch e53=>have h:=h ch e53;kc [45] []<|yH<|ar 14<|eH 2 [] [(46,.func (.func 61) #[] #[vp (pa lB),vp (pa b),vp (pa e)]),(47,vi p)]<|sv 48 [46,47] h λbt bx h=>yH<|qx h (λc55 h=>?_) (λc55 h=>?_)
  ·refine aJ 48 c55<|ar 15<|yS [39,40,41,48] []<|have⟨bm,a4,bf,q57,h⟩:=h;hH 49 75 q57 []<|eH 1 [9] [(50,vi p)] ?_
   obtain⟨ax,rfl,q58,hd⟩:=h
   refine yI (some 51) 75 3 1 ax a4 bf .i64 p C3 q58.1 q58.2 [49,50] [(51,Vq (ax.add (Int.toNat p*1)))]<|have⟨q60,h⟩:=hd;eQ 3 (vi 2) q60<|λb2 e59=>have h:=h b2 e59;kc [51] []<|yH<|ar 16<|have⟨br,q61,h⟩:=h;hH 52 37 q61 []<|eH 1 [] [(53,vp (pa ab))]<|have⟨b0,q62,h⟩:=h;hH 54 28 q62 [53]<|sv 55 [52,54] h λao cc h=>eT 1 [55] [(11,vu ao)]<|ge ?_
   obtain⟨ai,q63,av,q64,a5,q65,h⟩:=h
   refine yq 17 (Code.ops B4) [(6,(ad b),[vp ai]),(4,(ad b),[vp av]),(4,((ad ab).add 1),[vu a5])] 7 (bv 7 0) (show aE _ _ _ from⟨⟨q63,EO⟩,⟨q64,EO⟩,⟨q65,EO⟩,EO⟩)<|zB 0 (some 56) (vp ai) (bv 7 1) [(2,vp (pa b)),(3,vp (pa e)),(5,vp (pa lB)),(8,.func (.func 61) #[] #[vp (pa lB),vp (pa b),vp (pa e)]),(10,vp (pa ab)),(11,vu ao),(56,vp ai)] (aQ 37 (vp (pa b))) (yY 6 yX)<|kT 1 57 (vp av) (bv 7 3) [] (aQ 37 (vp (pa b))) (yY 4 yQ)<|aG 2 58 (Vq ((ad ab).add 1)) (bv 7 7) [10]<|kT 3 59 (vu a5) (bv 7 15) [58] (aQ 28 (Vq ((ad ab).add 1))) (yY 4 yJ)<|aG 5 61 (vu ao) (bv 7 47) [11]<|yx 4 (some 60) (bv 7 63) 13 #[vp av,vu a5] h ?_;clear h
   rintro cr co ⟨bu,rfl,f66,h⟩
   refine⟨[(2,vp (pa b)),(3,vp (pa e)),(5,vp (pa lB)),(8,.func (.func 61) #[] #[vp (pa lB),vp (pa b),vp (pa e)]),(56,vp ai),(60,vu bu),(61,vu ao)],pk,(show aE _ _ _ from⟨f66,EO,EO,EO⟩),?_⟩
   refine yx 6 (some 62) (bv 7 127) 62 #[vp ai,vu bu,vu ao] h ?_;clear h
   refine λv_7 ck h=>⟨[(2,vp (pa b)),(3,vp (pa e)),(5,vp (pa lB)),(8,.func (.func 61) #[] #[vp (pa lB),vp (pa b),vp (pa e)])],pk,(show aE _ _ _ from⟨EO,EO,EO,EO⟩),?_⟩
   refine eq [(2,vp (pa b)),(3,vp (pa e)),(5,vp (pa lB)),(8,.func (.func 61) #[] #[vp (pa lB),vp (pa b),vp (pa e)])] sk<|yz<|aC<|ar 18 ?_
   obtain⟨bl,q67,h⟩:=h
   refine CC (some 63) 37 q67 [(2,vp (pa b)),(3,vp (pa e)),(5,vp (pa lB)),(8,.func (.func 61) #[] #[vp (pa lB),vp (pa b),vp (pa e)]),(63,vp bl)]<|zC (some 64) h ?_;clear h
   exact λv_8 cm h=>kc [63] []<|yH<|xU 0 (by kernel_rfl)<|oU<|nA<|nA<|oU<|nA<|xV sk h
  exact aK 48 (zZ c55)<|zp<|aA<|aC<|oo 19<|eT 2 [9,10,41,48] [(41,vi (zY (p+1)))]<|aR ((zY (p+1)):Int) sk h
 refine aK 42 (zQ c47)<|zk 2<|aB<|aB<|aN<|aC<|ar 20<|eT 1 [8,39,40,41,42] [(12,VN)]<|ge<|ar 21<|have⟨ak,f,n,q68,h⟩:=h;hH 66 31 q68 [3]<|eT 2 [] [(67,vi f),(68,vi 0)]<|p0 4<|have⟨bz,m75,i69,i70⟩:=h;bL (x:=K74) (σ:=zW×Nat×Nat×Int) (λs_=> [(2,vp (pa b)),(5,vp (pa lB)),(12,vs s_.1 s_.2.1 s_.2.2.1),(66,vs ak f n),(67,vi f),(68,vi s_.2.2.2)]) (λs_ H=>bz s_.1 s_.2.1 s_.2.2.1 s_.2.2.2 H) (λs_ H=>m75 s_.1 s_.2.1 s_.2.2.1 s_.2.2.2 H) ((none,0,0,0):zW×Nat×Nat×Int) (by kernel_rfl) i69 sk ?_
 rintro⟨g,outN,outC,s68⟩ H23 i71
 have h:=i70 g outN outC s68 H23 i71
 refine nx [(2,vp (pa b)),(5,vp (pa lB)),(12,vs g outN outC),(66,vs ak f n),(67,vi f),(68,vi s68)]<|ar 22<|eT 1 [] [(69,.bool (decide (s68< (f:Int))))]<|ge<|qx h (λc72 h=>?_) (λc72 h=>?_)
 ·refine aJ 69 (zX c72)<|nc<|ge<|p0 5<|ar 23<|eH 1 [69] [(70,vi s68)] ?_
  obtain⟨q,rfl,q74,he⟩:=h
  refine yI (some 71) 31 36 2 q f n .i64 s68 D1 q74.1 q74.2 [66] [(66,vs (some q) f n),(71,Vq (q.add (Int.toNat s68*2)))]<|have⟨ah,y,q75,h⟩:=he;zN 72 36 q75 [71]<|t1 (some 14) (λb=>vp (pa b)) (.cells #[vu 0,vu 0] 36)<|λr H24 e76 e77=>have h:=h r H24 e76 e77;kc [] [(14,vp (pa r))]<|eH 1 [70] [(13,vi s68)]<|have⟨q79,h⟩:=h;fN 36 [vu ah,vu y] q79<|λbb e78=>have h:=h bb e78;kc [72] []<|yH<|ar 24<|have⟨bo,a8,be,q80,h⟩:=h;hH 73 75 q80 []<|eH 1 [13] [(74,vi s68)] ?_
  obtain⟨a6,rfl,q81,hf⟩:=h
  refine yI (some 75) 75 3 1 a6 a8 be .i64 s68 C3 q81.1 q81.2 [73,74] [(75,Vq (a6.add (Int.toNat s68*1)))]<|have⟨az,q82,h⟩:=hf;hH 76 3 q82 [75]<|eH 2 [76] [(78,.bool (decide (az<2)))]<|qx h (λc83 h=>?_) (λc83 h=>?_)
  ·refine o0 78 (zX c83)<|have⟨a2,q85,h⟩:=h;hH 79 37 q85 []<|eH 1 [] [(80,Vq ((ad r).add 1))]<|have⟨bk,q86,h⟩:=h;hH 81 28 q86 [80]<|sv 82 [79,81] h λa7 bp h=>eT 1 [78,82] [(83,.bool a7)]<|qx h (λc87 h=>?_) (λc87 h=>?_)
   ·refine aJ 83 c87 ?_
    obtain⟨am,q89,aw,q90,an,q91,a1,q92,h⟩:=h
    refine yq 25 (Code.ops K88) [(4,(ad b),[vp am]),(4,(ad r),[vu aw]),(8,(ad b),[vp an]),(8,((ad r).add 1),[vu a1])] 13 (bv 13 0) (show aE _ _ _ from⟨⟨q89,EO⟩,⟨q90,EO⟩,⟨q91,EO⟩,⟨q92,EO⟩,EO⟩)<|zr 0 (some 84) (vs g outN outC) (bv 13 1) [(2,vp (pa b)),(5,vp (pa lB)),(12,vs g outN outC),(14,vp (pa r)),(66,vs (some q) f n),(67,vi f),(68,vi s68),(84,vs g outN outC)]<|kT 1 85 (vp am) (bv 13 3) [] (aQ 37 (vp (pa b))) (yY 4 yX)<|aG 2 86 (vp (pa r)) (bv 13 7) []<|kT 3 87 (vu aw) (bv 13 15) [86] (aQ 28 (vp (pa r))) (yY 4 yQ)<|kT 5 89 (vp an) (bv 13 47) [] (aQ 37 (vp (pa b))) (yY 8 yJ)<|aG 6 90 (Vq ((ad r).add 1)) (bv 13 111) [14]<|kT 7 91 (vu a1) (bv 13 239) [90] (aQ 28 (Vq ((ad r).add 1))) (yY 8 yK)<|yx 4 (some 88) (bv 13 255) 13 #[vp am,vu aw] h ?_;clear h
    rintro cp ci ⟨a0,rfl,f93,f94,h⟩
    refine⟨[(2,vp (pa b)),(5,vp (pa lB)),(12,vs g outN outC),(66,vs (some q) f n),(67,vi f),(68,vi s68),(84,vs g outN outC),(88,vu a0),(89,vp an),(91,vu a1)],pk,(show aE _ _ _ from⟨EO,EO,f93,f94,EO⟩),?_⟩
    refine yx 8 (some 92) (bv 13 511) 13 #[vp an,vu a1] h ?_;clear h
    rintro cn cj ⟨a9,rfl,h⟩
    refine⟨[(2,vp (pa b)),(5,vp (pa lB)),(12,vs g outN outC),(66,vs (some q) f n),(67,vi f),(68,vi s68),(84,vs g outN outC),(88,vu a0),(92,vu a9)],pk,(show aE _ _ _ from⟨EO,EO,EO,EO,EO⟩),?_⟩
    refine zB 9 (some 93) (.agg #[vu a0,vu a9]) (bv 13 1023) [(2,vp (pa b)),(5,vp (pa lB)),(12,vs g outN outC),(66,vs (some q) f n),(67,vi f),(68,vi s68),(84,vs g outN outC),(93,.agg #[vu a0,vu a9])] (pure (.value (.agg #[vu a0,vu a9])):Sem Next) (λ_ _ _ _ _=>rfl)<|mO 10 (some 94) (bv 13 2047) (λb=>vs (pa b) 1 1) (.cells #[vu a0,vu a9] 36) (by kernel_rfl) (λ_=>by kernel_rfl) (by kernel_rfl)<|λb1 H29 e95 e96=>have h:=h b1 H29 e95 e96;⟨[(2,vp (pa b)),(5,vp (pa lB)),(12,vs g outN outC),(66,vs (some q) f n),(67,vi f),(68,vi s68),(84,vs g outN outC),(94,vs (pa b1) 1 1)],pk,(show aE _ _ _ from⟨EO,EO,EO,EO,EO⟩),?_⟩
    refine ox 11 (some 95) (bv 13 4095) (cF #[31,31] 31 #[vs g outN outC,vs (pa b1) 1 1]) _ (by kernel_rfl) (λ_=>by kernel_rfl) (bJ (T:=36) (sz:=2) (bytes:=16) (zero:=(.agg #[vu 0,vu 0]:Value)) D1 D1 rfl (show prog.info? 36=some t36 from by kernel_rfl) (by kernel_rfl) (by kernel_rfl) (by decide) (by kernel_rfl) (by first | exact h | (simpa only[Value.cells,C9]using h))) (by kernel_rfl) ?_;clear h
    rintro _ cl ⟨ap,ba,rfl,h⟩
    refine⟨[(2,vp (pa b)),(5,vp (pa lB)),(12,vs g outN outC),(66,vs (some q) f n),(67,vi f),(68,vi s68),(95,vs ap (outN+1) ba)],pk,(show aE _ _ _ from⟨EO,EO,EO,EO,EO⟩),?_⟩
    exact zB 12 (some 12) (vs ap (outN+1) ba) (bv 13 8191) [(2,vp (pa b)),(5,vp (pa lB)),(12,vs ap (outN+1) ba),(66,vs (some q) f n),(67,vi f),(68,vi s68)] (pure (.value (vs ap (outN+1) ba)):Sem Next) (λ_ _ _ _ _=>rfl)<|eq [(2,vp (pa b)),(5,vp (pa lB)),(12,vs ap (outN+1) ba),(66,vs (some q) f n),(67,vi f),(68,vi s68)] sk<|yz<|aA<|aC<|oo 26<|u5 2 [(2,vp (pa b)),(5,vp (pa lB)),(12,vs ap (outN+1) ba),(66,vs (some q) f n),(67,vi f),(68,vi (zY (s68+1)))]<|aR ((ap,(outN+1),ba,(zY (s68+1))):zW×Nat×Nat×Int) sk h
   exact aK 83 (zZ c87)<|zp<|aA<|aC<|oo 26<|eT 2 [14,68,83] [(68,vi (zY (s68+1)))]<|aR ((g,outN,outC,(zY (s68+1))):zW×Nat×Nat×Int) sk h
  exact o0 78 (zQ c83)<|eT 5 [78] [(83,VF)]<|yL 83<|zp<|aA<|aC<|oo 26<|eT 2 [14,68,83] [(68,vi (zY (s68+1)))]<|aR ((g,outN,outC,(zY (s68+1))):zW×Nat×Nat×Int) sk h
 exact aK 69 (zQ c72)<|zk 4<|aB<|aB<|aN<|aC<|ar 27<|kb 2 [4] [vs g outN outC] hQ h
namespace jp
def K0:=EP f20
def K2:=cb K0
def K8:=cb K2
def K9:=ca K8
def zS:=ca K9
def zy:=cb zS
def Ab:=cb zy
def Aa:=ca Ab
def Ar:=ca Aa
def AP:=cb Ar
def Bf:=cb AP
def AW:=ca Bf
def AH:=cb AW
def Bg:=cb AH
def AS:=cb Bg
def Ae:=ca AS
end jp
def jp.pt(tv:zW)(H:zV)(R:zv):=
 iU.C tv H (λv H1=> ∃x,v=.bool x/\
 if x=true then(
 R (.tuple #[]) H1)
 else
 dQ.C tv H1 (λax H2=> ∃xB xN xC,ax=vs xB xN xC/\
 ∃(y:zw) (m11:Int->zV->Nat),y 0 H2/\ ∀b H3,y b H3->
 if b< (xN:Int)then(
 ∃e,xB=some e/\
 yZ b xN/\
 ∃f,hat H3 (e.add (Int.toNat b*1))=some (vi f)/\
 ∃d,tv=some d/\
 ∃ag,hat H3 d=some (vp ag)/\
 ∃ah,ag=some ah/\
 ∃ai,hat H3 ah=some (vp ai)/\
 ∃ak,ai=some ak/\
 ∃af,hat H3 ak=some (vp af)/\
 ∃aj,af=some aj/\
 ∃ab,hat H3 aj=some (vp ab)/\
 cG.C ab f H3 (λaz H4=> ∃ra rb,az=.tuple #[vu ra,vi rb]/\
 dJ.C (some d) ra H4 (λaq H5=> ∃o,aq=.bool o/\
 if o=true then(
 bK.C (some d) ra H5 (λau H6=> ∃q,au=.bool q/\
 if q=true then(
 ∃ao,hat H6 d=some (vp ao)/\
 ∃n,ao=some n/\
 ∃al,hat H6 n=some (vp al)/\
 ∃g,al=some g/\
 ∃am,hat H6 g=some (vp am)/\
 ∃j,am=some j/\
 ∃m,hat H6 j=some (vp m)/\
 bA.C (some d) ra H6 (λaw H7=> ∃s,aw=vu s/\aL H7 d 0 [Vq n]/\aL H7 n 0 [Vq g]/\aL H7 g 0 [Vq j]/\aL H7 j 0 [vp m]/\
 bU.C m f s H7 (λav H8=> ∃an,av=vi an/\
 (y (zY (b+1)) H8/\m11 (zY (b+1)) H8<m11 b H3))))
 else
 ∃ac,hat H6 d=some (vp ac)/\
 ∃u,ac=some u/\
 ∃r,hat H6 u=some (vp r)/\
 ∃z,r=some z/\
 ∃aa,hat H6 z=some (vp aa)/\
 ∃ae,aa=some ae/\
 ∃p,hat H6 ae=some (vp p)/\
 bU.C p f 44 H6 (λay H9=> ∃ap,ay=vi ap/\
 (y (zY (b+1)) H9/\m11 (zY (b+1)) H9<m11 b H3))))
 else
 (y (zY (b+1)) H5/\m11 (zY (b+1)) H5<m11 b H3))))
 else
 R (.tuple #[]) H3))
theorem jp.link(h:pt d H R):C d H R:=by
 refine sa K0 76 func20 ?_
 intro w0 Q hQ
 unfold pt zY at h
 refine nx [(0,vp d)]<|ge<|ar 0<|eH 1 [] [(6,vp d)]<|sv 7 [6] h λx H1 h=>yH<|qx h (λc1 h=>?_) (λc1 h=>?_)
 ·exact aJ 7 c1<|hX [] [] hQ h
 refine aK 7 (zZ c1)<|nc<|ar 1<|eH 1 [7] [(8,vp d)]<|zO 9 [8] h λxB xN xC H2 h=>eT 2 [] [(10,vi xN),(11,vi 0)]<|p0 0<|have⟨y,m11,i3,i4⟩:=h;bL (x:=zS) (σ:=Int) (λs_=> [(0,vp d),(9,vs xB xN xC),(10,vi xN),(11,vi s_)]) (λs_ H=>y s_ H) (λs_ H=>m11 s_ H) (0:Int) (by kernel_rfl) i3 sk ?_
 rintro b H3 i5
 have h:=i4 b H3 i5
 refine nx [(0,vp d),(9,vs xB xN xC),(10,vi xN),(11,vi b)]<|ar 2<|eT 1 [] [(12,.bool (decide (b< (xN:Int))))]<|ge<|qx h (λc6 h=>?_) (λc6 h=>?_)
 ·refine aJ 12 (zX c6)<|nc<|ge<|p0 1<|ar 3<|yS [12] [] ?_
  obtain⟨e,rfl,q8,ha⟩:=h
  refine yI (some 13) 75 3 1 e xN xC .i64 b C3 q8.1 q8.2 [9] [(9,vs (some e) xN xC),(13,Vq (e.add (Int.toNat b*1)))]<|have⟨f,q9,h⟩:=ha;hH 14 3 q9 [13]<|eT 1 [14] [(3,vi f)]<|ar 4<|eH 1 [] [(16,vp d)] ?_
  obtain⟨tv,rfl,hb⟩:=h
  refine eH 2 [0,16] [(0,Vq tv),(18,Vq tv)]<|have⟨ag,q10,h⟩:=hb;hH 19 23 q10 [18] ?_
  obtain⟨ah,rfl,hc⟩:=h
  refine eH 2 [19] [(21,Vq ah)]<|have⟨ai,q11,h⟩:=hc;hH 22 49 q11 [21] ?_
  obtain⟨ak,rfl,hd⟩:=h
  refine eH 2 [22] [(24,Vq ak)]<|have⟨af,q12,h⟩:=hd;hH 25 52 q12 [24] ?_
  obtain⟨aj,rfl,he⟩:=h
  refine eH 2 [25] [(27,Vq aj)]<|have⟨ab,q13,h⟩:=he;hH 28 78 q13 [27]<|eH 1 [] [(29,vi f)]<|yT 30 [28,29] h λra rb H4 h=>eT 5 [30] [(4,vu ra)]<|p0 2<|ar 6<|eH 2 [] [(49,Vq tv),(50,vu ra)]<|sv 51 [49,50] h λo H5 h=>eT 2 [51] [(48,.bool (!o))]<|qx h (λc14 h=>?_) (λc14 h=>?_)
  ·refine aK 48 (CJ Bool.not (c14))<|ar 7<|eH 2 [48] [(54,Vq tv),(55,vu ra)]<|sv 56 [54,55] h λq H6 h=>eT 1 [56] [(53,.bool q)]<|qx h (λc16 h=>?_) (λc16 h=>?_)
   ·refine aJ 53 c16 ?_
    obtain⟨ao,q18,n,rfl,al,q19,g,rfl,am,q20,j,rfl,m,q21,hf⟩:=h
    refine yq 8 (Code.ops Ae) [(17,tv,[Vq n]),(17,n,[Vq g]),(17,g,[Vq j]),(17,j,[vp m])] 18 (bv 18 0) (show aE _ _ _ from⟨⟨q18,EO⟩,⟨q19,EO⟩,⟨q20,EO⟩,⟨q21,EO⟩,EO⟩)<|zr 0 (some 57) (Vq tv) (bv 18 1) [(0,Vq tv),(3,vi f),(4,vu ra),(9,vs (some e) xN xC),(10,vi xN),(11,vi b),(57,Vq tv)]<|aG 1 58 (Vq tv) (bv 18 3) [57]<|aG 2 59 (Vq tv) (bv 18 7) [58]<|kT 3 60 (Vq n) (bv 18 15) [59] (aQ 23 (Vq tv)) (yY 17 yX)<|aG 4 61 (Vq n) (bv 18 31) [60]<|aG 5 62 (Vq n) (bv 18 63) [61]<|kT 6 63 (Vq g) (bv 18 127) [62] (aQ 49 (Vq n)) (yY 17 yQ)<|aG 7 64 (Vq g) (bv 18 255) [63]<|aG 8 65 (Vq g) (bv 18 511) [64]<|kT 9 66 (Vq j) (bv 18 1023) [65] (aQ 52 (Vq g)) (yY 17 yJ)<|aG 10 67 (Vq j) (bv 18 2047) [66]<|aG 11 68 (Vq j) (bv 18 4095) [67]<|kT 12 69 (vp m) (bv 18 8191) [68] (aQ 78 (Vq j)) (yY 17 yK)<|aG 13 70 (vi f) (bv 18 16383) [3]<|aG 14 71 (Vq tv) (bv 18 32767) []<|aG 15 72 (vu ra) (bv 18 65535) [4]<|yx 16 (some 73) (bv 18 131071) 13 #[Vq tv,vu ra] hf ?_;clear hf
    rintro aw H7 ⟨s,rfl,f22,f23,f24,f25,h⟩
    refine⟨[(0,Vq tv),(9,vs (some e) xN xC),(10,vi xN),(11,vi b),(69,vp m),(70,vi f),(73,vu s)],pk,(show aE _ _ _ from⟨f22,f23,f24,f25,EO⟩),?_⟩
    refine yx 17 (some 74) (bv 18 262143) 54 #[vp m,vi f,vu s] h ?_;clear h
    rintro av H8 ⟨an,rfl,h⟩
    refine⟨[(0,Vq tv),(9,vs (some e) xN xC),(10,vi xN),(11,vi b)],pk,(show aE _ _ _ from⟨EO,EO,EO,EO,EO⟩),?_⟩
    exact eq [(0,Vq tv),(9,vs (some e) xN xC),(10,vi xN),(11,vi b)] sk<|yz<|aA<|aA<|aC<|oo 9<|u5 2 [(0,Vq tv),(9,vs (some e) xN xC),(10,vi xN),(11,vi (zY (b+1)))]<|aR ((zY (b+1)):Int) sk h
   refine aK 53 (zZ c16)<|oo 5<|eH 3 [4,53] [(35,Vq tv)]<|have⟨ac,q26,h⟩:=h;hH 36 23 q26 [35] ?_
   obtain⟨u,rfl,hg⟩:=h
   refine eH 2 [36] [(38,Vq u)]<|have⟨r,q27,h⟩:=hg;hH 39 49 q27 [38] ?_
   obtain⟨z,rfl,hh⟩:=h
   refine eH 2 [39] [(41,Vq z)]<|have⟨aa,q28,h⟩:=hh;hH 42 52 q28 [41] ?_
   obtain⟨ae,rfl,hi⟩:=h
   refine eH 2 [42] [(44,Vq ae)] ?_
   obtain⟨p,q29,h⟩:=hi
   refine hH 45 78 q29 [44]<|eH 1 [3] [(46,vi f)]<|zC (some 47) h ?_;clear h
   rintro ay H9 ⟨ap,rfl,h⟩
   exact kc [45,46] []<|zq<|aA<|aA<|aC<|oo 9<|eT 2 [11] [(11,vi (zY (b+1)))]<|aR ((zY (b+1)):Int) sk h
  exact aJ 48 (CJ Bool.not (zZ c14))<|zp<|aA<|aA<|aC<|oo 9<|eT 2 [3,4,11,48] [(11,vi (zY (b+1)))]<|aR ((zY (b+1)):Int) sk h
 exact aK 12 (zQ c6)<|zk 0<|aB<|aB<|aN<|gH (fn:=f20) [] hQ (show bV _ _ _ [] _ from .nil) h
namespace jK
def K0:=EP f34
def K2:=cb K0
def K4:=cb K2
def zy:=cb K4
def Aq:=ca zy
def Ay:=cb Aq
def Aa:=ca Ay
def An:=ca Aa
end jK
def jK.pt(tv lB:zW)(lN lC:Nat)(H:zV)(R:zv):=
 iU.C tv H (λv H1=> ∃x,v=.bool x/\
 if x=true then(
 aW.C lB lN lC H1 (λp H2=> ∃xB xN xC,p=vs xB xN xC/\
 R (vs xB xN xC) H2))
 else
 ∃(m:zW->Nat->Nat->zw) (m19:zW->Nat->Nat->Int->zV->Nat),m none 0 0 0 H1/\ ∀d outN outC s14 H3,m d outN outC s14 H3->
 if s14< (lN:Int)then(
 ∃e,lB=some e/\
 yZ s14 lN/\
 ∃f,hat H3 (e.add (Int.toNat s14*1))=some (vu f)/\
 bK.C tv f H3 (λq H4=> ∃g,q=.bool g/\
 if g=true then(
 bA.C tv f H4 (λo H5=> ∃n,o=vu n/\
 ∀b H6,b=H5.size->H6=H5.push (.cells #[vu n] 28)->
 bH 1 28 8 [vu 0] d outN outC (some (ad b)) 1 H6 (λap j H7=>
 (m ap (outN+1) j (zY (s14+1)) H7/\m19 ap (outN+1) j (zY (s14+1)) H7<m19 d outN outC s14 H3))))
 else
 (m d outN outC (zY (s14+1)) H4/\m19 d outN outC (zY (s14+1)) H4<m19 d outN outC s14 H3)))
 else
 R (vs d outN outC) H3)
theorem jK.link{lN lC:Nat}(h:pt d i lN lC H R):C d i lN lC H R:=by
 refine sa K0 29 func34 ?_
 intro w0 Q hQ
 unfold pt zY at h
 refine nx [(0,vp d),(1,vs i lN lC)]<|ar 0<|eT 1 [] []<|ge<|ar 1<|eH 1 [] [(8,vp d)]<|sv 9 [8] h λx H1 h=>yH<|qx h (λc1 h=>?_) (λc1 h=>?_)
 ·exact aJ 9 c1<|ar 2<|va 1 [(10,vs i lN lC)]<|BI 11 (λxB xN xC=>[(11,vs xB xN xC)]) h λxB xN xC H2 h=>kb 1 [4] [vs xB xN xC] hQ h
 refine aK 9 (zZ c1)<|nc<|ar 3<|eT 1 [9] [(5,VN)]<|ge<|ar 4<|eT 3 [1] [(12,vs i lN lC),(13,vi lN),(14,vi 0)]<|p0 0<|have⟨m,m19,i3,i4⟩:=h;bL (x:=An) (σ:=zW×Nat×Nat×Int) (λs_=> [(0,vp d),(5,vs s_.1 s_.2.1 s_.2.2.1),(12,vs i lN lC),(13,vi lN),(14,vi s_.2.2.2)]) (λs_ H=>m s_.1 s_.2.1 s_.2.2.1 s_.2.2.2 H) (λs_ H=>m19 s_.1 s_.2.1 s_.2.2.1 s_.2.2.2 H) ((none,0,0,0):zW×Nat×Nat×Int) (by kernel_rfl) i3 sk ?_
 rintro⟨lB,outN,outC,s14⟩ H3 i5
 have h:=i4 lB outN outC s14 H3 i5
 refine nx [(0,vp d),(5,vs lB outN outC),(12,vs i lN lC),(13,vi lN),(14,vi s14)]<|ar 5<|eT 1 [] [(15,.bool (decide (s14< (lN:Int))))]<|ge<|qx h (λc6 h=>?_) (λc6 h=>?_)
 ·refine aJ 15 (zX c6)<|nc<|ge<|p0 1<|ar 6<|yS [15] [] ?_
  obtain⟨e,rfl,q8,ha⟩:=h
  refine yI (some 16) 32 28 1 e lN lC .i64 s14 CO q8.1 q8.2 [12] [(12,vs (some e) lN lC),(16,Vq (e.add (Int.toNat s14*1)))]<|have⟨f,q9,h⟩:=ha;hH 17 28 q9 [16]<|eT 1 [17] [(7,vu f)]<|ar 7<|eH 2 [] [(18,vp d),(19,vu f)]<|sv 20 [18,19] h λg H4 h=>yH<|qx h (λc10 h=>?_) (λc10 h=>?_)
  ·refine aJ 20 c10<|oo 8<|eH 3 [5,7,20] [(21,vs lB outN outC),(22,vp d),(23,vu f)]<|sv 24 [22,23] h λn H5 h=>t1 (some 25) (λb=>vs (pa b) 1 1) (.cells #[vu n] 28) ?_
   intro b H6 e12 e13
   replace h:=h b H6 e12 e13
   refine kc [24] [(25,vs (pa b) 1 1)]<|zi (some 26) (cF #[32,32] 32 #[vs lB outN outC,vs (pa b) 1 1]) _ (λ_=>by kernel_rfl) (bJ (T:=28) (sz:=1) (bytes:=8) (zero:=(vu 0:Value)) CO CO rfl (show prog.info? 28=some t28 from by kernel_rfl) (by kernel_rfl) (by kernel_rfl) (by decide) (by kernel_rfl) (by first | exact h | (simpa only[Value.cells,C9]using h))) ?_;clear h
   rintro _ H7 ⟨ap,j,rfl,h⟩
   exact kc [21,25] [(26,vs ap (outN+1) j)]<|eH 1 [26] [(5,vs ap (outN+1) j)]<|zq<|aA<|aC<|oo 9<|eT 2 [14] [(14,vi (zY (s14+1)))]<|aR ((ap,(outN+1),j,(zY (s14+1))):zW×Nat×Nat×Int) sk h
  exact aK 20 (zZ c10)<|zp<|aA<|aC<|oo 9<|eT 2 [7,14,20] [(14,vi (zY (s14+1)))]<|aR ((lB,outN,outC,(zY (s14+1))):zW×Nat×Nat×Int) sk h
 exact aK 15 (zQ c6)<|zk 0<|aB<|aB<|aN<|aC<|ar 10<|kb 2 [4] [vs lB outN outC] hQ h
def iU.K0:=EP f59
def iU.pt(tv:zW)(H:zV)(R:zv):=
 eU tv (
 R VT H) (λa=>
 dY.C (some a) H (λv H1=> ∃x,v=.bool x/\
 R (.bool x) H1))
theorem iU.link(h:pt d H R):C d H R:=by
 refine sa K0 9 func59 ?_
 intro w0 Q hQ
 unfold pt at h
 refine nx [(0,vp d)]<|ar 0<|eT 1 [] []<|ar 1<|eH 1 [] [(3,vp d)] ?_
 rcases d with _ | a
 ·rw[CP]at h
  exact kb 6 [2] [VT] hQ h
 rw[CK]at h
 exact va 3 [(5,VF),(6,Vq a)]<|sv 7 [6] h λx H1 h=>kb 2 [2] [.bool x] hQ h
def gQ.K0:=EP f61
def gQ.K2:=cb K0
def gQ.K3:=ca K2
def gQ.pt(i:Int)(r j g:zW)(H:zV)(R:zv):=
 ∃m,r=some m/\
 ∃xB xN xC,hat H m=some (vs xB xN xC)/\
 ∃b,xB=some b/\
 yZ i xN/\
 ∃x,hat H (b.add (Int.toNat i*1))=some (vi x)/\
 if x=1 then(
 ∃f,j=some f/\
 ∃o,hat H f=some (vp o)/\
 ∃d,g=some d/\
 ∃u n q,hat H d=some (vs u n q)/\
 ∃e,u=some e/\
 yZ i n/\
 ∃s,hat H ((e.add (Int.toNat i*2)).add 1)=some (vu s)/\
 bK.C o s H (λv H1=> ∃p,v=.bool p/\
 R (.bool p) H1))
 else
 R VF H
theorem gQ.link{r:Int}{g:zW}(h:pt r d i g H R):C r d i g H R:=by
 refine sa K0 20 func61 ?_
 intro w0 Q hQ
 unfold pt at h
 refine nx [(0,vi r),(1,vp d),(2,vp i),(3,vp g)]<|ar 0<|eT 1 [] []<|ge ?_
 obtain⟨m,rfl,xB,xN,xC,q1,b,rfl,q2,x,q3,ha⟩:=h
 have h:=ha
 revert h;refine Bo (λc4 h=>?_) (λc4 h=>?_)
 ·obtain⟨f,rfl,o,q6,j,rfl,u,n,q,q7,e,rfl,q8,s,q9,hb⟩:=h
  refine yq 1 (Code.ops K3) [(12,m,[vs (some b) xN xC]),(12,(b.add (Int.toNat r*1)),[vi x]),(12,f,[vp o]),(12,j,[vs (some e) n q]),(12,((e.add (Int.toNat r*2)).add 1),[vu s])] 15 (bv 15 0) (show aE _ _ _ from⟨⟨q1,EO⟩,⟨q3,EO⟩,⟨q6,EO⟩,⟨q7,EO⟩,⟨q9,EO⟩,EO⟩)<|zB 0 (some 6) (vs (some b) xN xC) (bv 15 1) [(0,vi r),(2,vp (some f)),(3,vp (some j)),(6,vs (some b) xN xC)] (aQ 75 (vp (some m))) (yY 12 yX)<|aG 1 7 (vi r) (bv 15 3) []<|kT 2 8 (vp (some (b.add (Int.toNat r*1)))) (bv 15 7) [6,7] (bE 75 (vs (some b) xN xC) (vi r)) (λ_ w _ _ _=>dZ (P:=prog) (t:=75) (elem:=3) (sz:=1) (a:=b) (len:=xN) (cap:=xC) (k:=.i64) (i:=r) C3 (λ_=>by kernel_rfl) q2.1 q2.2 w)<|kT 3 9 (vi x) (bv 15 15) [8] (aQ 3 (vp (some (b.add (Int.toNat r*1))))) (yY 12 yQ)<|aG 4 10 (.bool (x==1)) (bv 15 31) [9]<|aG 5 11 (.bool (x==1)) (bv 15 63) [10]<|Bb 11 (zK c4)<|kT 6 12 (vp o) (bv 15 127) [2] (aQ 37 (vp (some f))) (yY 12 yJ)<|kT 7 13 (vs (some e) n q) (bv 15 255) [3] (aQ 31 (vp (some j))) (yY 12 yK)<|aG 8 14 (vi r) (bv 15 511) [0]<|kT 9 15 (vp (some (e.add (Int.toNat r*2)))) (bv 15 1023) [13,14] (bE 31 (vs (some e) n q) (vi r)) (λ_ w _ _ _=>dZ (P:=prog) (t:=31) (elem:=36) (sz:=2) (a:=e) (len:=n) (cap:=q) (k:=.i64) (i:=r) D1 (λ_=>by kernel_rfl) q8.1 q8.2 w)<|aG 10 16 (vp (some ((e.add (Int.toNat r*2)).add 1))) (bv 15 2047) [15]<|kT 11 17 (vu s) (bv 15 4095) [16] (aQ 28 (vp (some ((e.add (Int.toNat r*2)).add 1)))) (yY 12 yV)<|yx 12 (some 18) (bv 15 8191) 28 #[vp o,vu s] hb ?_;clear hb
  rintro v H1 ⟨p,rfl,h⟩
  refine⟨[(11,VT),(18,.bool p)],pk,(show aE _ _ _ from⟨EO,EO,EO,EO,EO,EO⟩),?_⟩
  exact zB 13 (some 19) (.bool p) (bv 15 16383) [(19,.bool p)] (pure (.value (.bool p)):Sem Next) (λ_ _ _ _ _=>rfl)<|kT 14 5 (.bool p) (bv 15 32767) [19] (pure (.value (.bool p)):Sem Next) (λ_ _ _ _ _=>rfl)<|eq [(5,.bool p)] sk<|yz<|aC<|hX [5] [.bool p] hQ h
 exact yq 1 (Code.ops K3) [(15,m,[vs (some b) xN xC]),(15,(b.add (Int.toNat r*1)),[vi x])] 15 (bv 15 0) (show aE _ _ _ from⟨⟨q1,EO⟩,⟨q3,EO⟩,EO⟩)<|zB 0 (some 6) (vs (some b) xN xC) (bv 15 1) [(0,vi r),(2,vp i),(3,vp g),(6,vs (some b) xN xC)] (aQ 75 (vp (some m))) (jV 15 (λ_=>by kernel_rfl) yX (.inr (by kernel_rfl)))<|aG 1 7 (vi r) (bv 15 3) []<|kT 2 8 (vp (some (b.add (Int.toNat r*1)))) (bv 15 7) [6,7] (bE 75 (vs (some b) xN xC) (vi r)) (λ_ w _ _ _=>dZ (P:=prog) (t:=75) (elem:=3) (sz:=1) (a:=b) (len:=xN) (cap:=xC) (k:=.i64) (i:=r) C3 (λ_=>by kernel_rfl) q2.1 q2.2 w)<|kT 3 9 (vi x) (bv 15 15) [8] (aQ 3 (vp (some (b.add (Int.toNat r*1))))) (jV 15 (λ_=>by kernel_rfl) yQ (.inr (by kernel_rfl)))<|aG 4 10 (.bool (x==1)) (bv 15 31) [9]<|aG 5 11 (.bool (x==1)) (bv 15 63) [10]<|Bb 11 (zJ c4)<|jz 6 (some 12) (bv 15 127) [2] [(12,undef)]<|jz 7 (some 13) (bv 15 255) [3] [(13,undef)]<|jz 8 (some 14) (bv 15 511) [0] [(14,undef)]<|jz 9 (some 15) (bv 15 1023) [13,14] [(15,undef)]<|jz 10 (some 16) (bv 15 2047) [15] [(16,undef)]<|jz 11 (some 17) (bv 15 4095) [16] [(17,undef)]<|jz 12 (some 18) (bv 15 8191) [12,17] [(18,undef)]<|aG 13 19 (.bool false) (bv 15 16383) [11,18]<|aG 14 5 (.bool false) (bv 15 32767) [19]<|eq [(5,.bool false)] sk<|yz<|aC<|hX [5] [.bool false] hQ h
def kg.K0:=EP f62
def kg.pt(tv:zW)(a e:Int)(H:zV)(R:zv):=
 ∃b,tv=some b/\
 ∃x,hat H b=some (vp x)/\
 bX.C x a H (λv H1=> ∃i,v=vi i/\
 if i=10 then(
 ∃n,hat H1 b=some (vp n)/\
 cO.C n a H1 (λaa H2=> ∃j,aa=vi j/\
 if j=2 then(
 fC.C (some b) e 20 H2 (λac H3=> ∃d,ac=vu d/\
 if d=20 then(
 R (.tuple #[]) H3)
 else
 ∃o,hat H3 b=some (vp o)/\
 dF.C o a 10 1 H3 (λt H4=> ∃ra rb,t=.tuple #[vu ra,vi rb]/\
 ∃p,hat H4 b=some (vp p)/\
 eG.C p ra d H4 (λu H5=> ∃k,u=vi k/\
 if k=0 then(
 ∃m,hat H5 b=some (vp m)/\
 eN.C m a 10 1 d H5 (λz H6=> ∃r,z=vi r/\
 R (.tuple #[]) H6))
 else
 ∃g,hat H5 b=some (vp g)/\
 eN.C g a 10 0 d H5 (λy H7=> ∃s,y=vi s/\
 ∃f,hat H7 b=some (vp f)/\
 eN.C f a 10 1 d H7 (λab H8=> ∃q,ab=vi q/\
 R (.tuple #[]) H8))))))
 else
 R (.tuple #[]) H2))
 else
 R (.tuple #[]) H1)
theorem kg.link{a e:Int}(h:pt d a e H R):C d a e H R:=by
 refine sa K0 61 func62 ?_
 intro w0 Q hQ
 unfold pt at h
 refine nx [(0,vp d),(1,vu a),(2,vu e)]<|ge<|ar 0<|eH 1 [] [(9,vp d)] ?_
 obtain⟨b,rfl,ha⟩:=h
 refine eH 2 [0,9] [(0,Vq b),(11,Vq b)]<|have⟨x,q1,h⟩:=ha;hH 12 23 q1 [11]<|eH 1 [] [(13,vu a)]<|sv 14 [12,13] h λi H1 h=>eH 2 [14] [(16,.bool (i !=10))]<|qx h (λc2 h=>?_) (λc2 h=>?_)
 ·refine o0 16 (CX.mpr c2)<|eH 3 [] [(19,Vq b)]<|have⟨n,q4,h⟩:=h;hH 20 23 q4 [19]<|eH 1 [] [(21,vu a)]<|sv 22 [20,21] h λj H2 h=>eT 2 [16,22] [(24,.bool (j !=2))]<|qx h (λc5 h=>?_) (λc5 h=>?_)
  ·refine aK 24 (CX.mpr c5)<|nc<|ar 1<|eH 2 [2,24] [(25,Vq b),(26,vu e)]<|sv 27 [25,26] h λtv H3 h=>eT 1 [27] [(6,vu tv)]<|ge<|ar 2<|eT 2 [] [(29,.bool (tv==20))]<|qx h (λc7 h=>?_) (λc7 h=>?_)
   ·exact aJ 29 (zK c7)<|hX [] [] hQ h
   refine aK 29 (zJ c7)<|nc<|ge<|ar 3<|eH 3 [29] [(33,Vq b)]<|have⟨o,q9,h⟩:=h;hH 34 23 q9 [33]<|eH 1 [] [(35,vu a)]<|yT 36 [34,35] h λra rb H4 h=>eT 5 [36] [(7,vu ra)]<|ar 4<|eH 3 [] [(41,Vq b)]<|have⟨p,q10,h⟩:=h;hH 42 23 q10 [41]<|eH 2 [7] [(43,vu ra),(44,vu tv)]<|sv 45 [42,43,44] h λk H5 h=>eT 1 [45] [(46,.bool (k !=0))]<|qx h (λc11 h=>?_) (λc11 h=>?_)
   ·exact aK 46 (CX.mpr c11)<|nc<|oo 6<|eH 3 [0,46] [(56,Vq b)]<|have⟨m,q13,h⟩:=h;hH 57 23 q13 [56]<|eH 2 [1,6] [(58,vu a),(59,vu tv)]<|zo 60 (λr=>[]) h λr H6 h=>zq<|gH (fn:=f62) [] hQ (show bV _ _ _ [] _ from .nil) h
   refine aJ 46 (CY.mpr c11)<|oo 5<|eH 3 [46] [(49,Vq b)] ?_
   obtain⟨g,q14,h⟩:=h
   refine hH 50 23 q14 [49]<|eH 2 [] [(51,vu a),(52,vu tv)]<|zC (some 53) h ?_;clear h
   rintro y H7 ⟨s,rfl,h⟩
   exact kc [50,51,52] []<|yH<|oo 6<|eH 3 [0] [(56,Vq b)]<|have⟨f,q15,h⟩:=h;hH 57 23 q15 [56]<|eH 2 [1,6] [(58,vu a),(59,vu tv)]<|zo 60 (λq=>[]) h λq H8 h=>zq<|gH (fn:=f62) [] hQ (show bV _ _ _ [] _ from .nil) h
  exact aJ 24 (CY.mpr c5)<|hX [] [] hQ h
 exact o0 16 (CY.mpr c2)<|eT 8 [16] [(24,VT)]<|wc 24<|hX [] [] hQ h
variable{H:zV}{d:zW}{R:zv}
namespace iE
def K0:=EP f39
def K2:=cb K0
def K4:=cb K2
def K6:=cb K4
def K7:=ca K6
def zS:=cb K7
def K11:=ca zS
def zy:=ca K11
end iE
def iE.pt(hv g:zW)(j m:Nat)(H:zV)(R:zv):=
 jt.C hv g j m H (λv H1=> ∃n b e rb,v=.tuple #[vs n b e,.map rb]/\
 ∃(p:Int->zw) (m13:Int->Int->zV->Nat),p 0 0 H1/\ ∀d s18 H2,p d s18 H2->
 if s18< (b:Int)then(
 ∃f,n=some f/\
 yZ s18 b/\
 ∃x,hat H2 (f.add (Int.toNat s18*1))=some (vu x)/\
 bO.C hv x H2 (λq H3=> ∃o,q=vi o/\
 (p (zY (d+o)) (zY (s18+1)) H3/\m13 (zY (d+o)) (zY (s18+1)) H3<m13 d s18 H2)))
 else
 R (vi d) H2)
theorem iE.link{g:zW}{j m:Nat}(h:pt d g j m H R):C d g j m H R:=by
 refine sa K0 29 func39 ?_
 intro w0 Q hQ
 unfold pt zY at h
 refine nx [(0,vp d),(1,vs g j m)]<|ar 0<|eT 1 [] []<|ar 1<|eH 2 [1] [(11,vp d),(12,vs g j m)]<|BD 13 [11,12] h λn b e rb H1 h=>eT 5 [13] [(5,vs n b e)]<|ar 2<|eT 1 [] [(7,vi 0)]<|ge<|ar 3<|eT 3 [5] [(16,vs n b e),(17,vi b),(18,vi 0)]<|p0 0<|have⟨p,m13,i1,i2⟩:=h;bL (x:=zy) (σ:=Int×Int) (λs_=> [(0,vp d),(7,vi s_.1),(16,vs n b e),(17,vi b),(18,vi s_.2)]) (λs_ H=>p s_.1 s_.2 H) (λs_ H=>m13 s_.1 s_.2 H) ((0,0):Int×Int) (by kernel_rfl) i1 sk ?_
 rintro⟨hv,s18⟩ H2 i3
 have h:=i2 hv s18 H2 i3
 refine nx [(0,vp d),(7,vi hv),(16,vs n b e),(17,vi b),(18,vi s18)]<|ar 4<|eT 1 [] [(19,.bool (decide (s18< (b:Int))))]<|ge<|qx h (λc4 h=>?_) (λc4 h=>?_)
 ·refine aJ 19 (zX c4)<|nc<|ge<|p0 1<|ar 5<|yS [19] [] ?_
  obtain⟨f,rfl,q6,ha⟩:=h
  exact yI (some 20) 32 28 1 f b e .i64 s18 CO q6.1 q6.2 [16] [(16,vs (some f) b e),(20,Vq (f.add (Int.toNat s18*1)))]<|have⟨x,q7,h⟩:=ha;hH 21 28 q7 [20]<|eT 1 [21] [(9,vu x)]<|oo 6<|eH 3 [7,9] [(22,vi hv),(23,vp d),(24,vu x)]<|sv 25 [23,24] h λo H3 h=>eH 2 [22,25] [(7,vi (zY (hv+o)))]<|zq<|aA<|aC<|oo 7<|eT 2 [18] [(18,vi (zY (s18+1)))]<|aR (((zY (hv+o)),(zY (s18+1))):Int×Int) sk h
 exact aK 19 (zQ c4)<|zk 0<|aB<|aB<|aN<|aC<|ar 8<|kb 2 [4] [vi hv] hQ h
namespace gT
def K0:=EP f77
def K2:=cb K0
def K4:=cb K2
def K5:=ca K4
def K8:=cb K5
def K9:=ca K8
def zS:=ca K9
def K11:=cb K9
end gT
def gT.pt(hv:zW)(H:zV)(R:zv):=
 ∀b H1,b=H.size->H1=H.push (.cells #[VN] 32)->
 fE.C hv H1 (λv H2=>v=v/\
 ∀(rc:LoopState->Option Code->Obj) (lp:Nat) (H3:zV),lp=H2.size+1->H3=(H2.push (.deferred (some []))).push (rc .ready none)->
 ∀vY,(∀(a:Int) (x_3:Int) (H4:zV) (vRy:zv),H4[lp]?=some (rc .ready none)->
 (H4[lp]?=some (rc .ready none)/\ ∀H5,H5=aM H4 lp (rc .busy none)->
 if x_3>0 then(
 ∃xB xN xC,hat H5 (ad b)=some (vs xB xN xC)/\
 ∀j H6,j=H5.size->H6=H5.push (.cells #[vu a] 28)->
 bH 1 28 8 [vu 0] xB xN xC (some (ad j)) 1 H6 (λap i H7=>
 (aH H7 (ad b) 0 1)/\ ∀H8,H8=aP H7 (ad b) [vs ap (xN+1) i] 0->
 H8[lp]?=some (rc .busy none)/\
 vRy VT (aM H8 lp (rc .ready none))))
 else
 H5[lp]?=some (rc .busy none)/\
 vRy VT (aM H5 lp (rc .ready none)))->
 FC prog vY #[vu a,vi x_3] H4 vRy)->
 FE prog v #[vY] H3 (λ_ H9=>
 (H9[lp]?=some (rc .ready none)/\ ∀k,k=aM H9 lp (rc .exhausted none)->
 ∃e d f,hat k (ad b)=some (vs e d f)/\
 Shut (H2.size::[]) k (λm=>
 R (vs e d f) m))))
theorem gT.link(h:pt d H R):C d H R:=by
 refine sa K0 17 func77 ?_
 intro w0 Q hQ
 unfold pt at h
 refine nx [(0,vp d)]<|ar 0<|eT 1 [] []<|ar 1<|t1 (some 3) (λb=>vp (pa b)) (.cells #[VN] 32) ?_
 intro b H1 e1 e2
 replace h:=h b H1 e1 e2
 refine kc [] [(3,vp (pa b))]<|yH<|ge<|ar 2<|eH 1 [0] [(6,vp d)]<|zC (some 7) h ?_;clear h
 rintro v H2 ⟨-,h⟩
 refine kc [6] [(7,v)]<|yH<|p0 0<|lA (g:=.tmp 7) (ps:= #[8,9]) (assign:=zS) (body:=K11) (v) (by kernel_rfl) (by kernel_rfl) (by kernel_rfl)<|λrc lp H3 r3 e4 e5 y6=>FE.mono (h rc lp H3 e4 e5 (.func (.yield lp) #[] #[]) ?_) ?_
 ·clear h
  refine λa x_3 H4 vRy q7 h=>y6 #[vu a,vi x_3] H4 vRy (by kernel_rfl) q7 (λw1x=>?_)
  refine Ai [] [(8,vu a),(9,vi x_3)]<|ar 3<|eT 1 [7,8] [(4,vu a)]<|oo 4<|eH 1 [9] [(5,vi x_3)]<|zq<|have⟨q9,h⟩:=h;aC<|lz r3 q9<|λH5 e8=>have h:=h H5 e8;p0 1<|ar 5<|eT 2 [5] [(11,.bool (decide (x_3>0)))]<|qx h (λc10 h=>?_) (λc10 h=>?_)
  ·refine aJ 11 (zX c10)<|oo 6<|yS [11] []<|have⟨xB,xN,xC,q12,h⟩:=h;hH 12 32 q12 []<|eH 1 [4] [(13,vu a)]<|t1 (some 14) (λb=>vs (pa b) 1 1) (.cells #[vu a] 28) ?_
   intro j H6 e13 e14
   replace h:=h j H6 e13 e14
   refine kc [13] [(14,vs (pa j) 1 1)]<|zi (some 15) (cF #[32,32] 32 #[vs xB xN xC,vs (pa j) 1 1]) _ (λ_=>by kernel_rfl) (bJ (T:=28) (sz:=1) (bytes:=8) (zero:=(vu 0:Value)) CO CO rfl (show prog.info? 28=some t28 from by kernel_rfl) (by kernel_rfl) (by kernel_rfl) (by decide) (by kernel_rfl) (by first | exact h | (simpa only[Value.cells,C9]using h))) ?_;clear h
   rintro _ H7 ⟨ap,i,rfl,h⟩
   refine kc [12,14] [(15,vs ap (xN+1) i)]<|have⟨q16,h⟩:=h;eQ 32 (vs ap (xN+1) i) q16<|λH8 e15=>have h:=h H8 e15;⟨[],pk,?_⟩
   exact zq<|aA<|have⟨q17,h⟩:=h;bW r3 q17 h
  exact aK 11 (zQ c10)<|zp<|aA<|have⟨q18,h⟩:=h;bW r3 q18 h
 clear h y6
 rintro _ H9 (⟨q19,h⟩)
 refine .inl ⟨q19,λk e21=>?_⟩
 refine have h:=h k e21;kJ (H2.size::[]) rfl<|Ai [7] []<|aA<|aC<|ar 7<|have⟨e,hv,f,q20,h⟩:=h;hH 16 32 q20 [3]<|u5 1 [(2,vs e hv f)]<|zx ?_
 show At _ _ _ _ _ (Q .ret)
 refine lw (fn:=f77) (H2.size::[]) hQ (DS (λm h=>?_) h)
 exact⟨[vs e hv f],(show bV _ _ _ [.tmp 2] _ from .tmp (by kernel_rfl) (.nil)),h⟩
namespace fI
def K0:=EP f78
def K2:=cb K0
def K4:=cb K2
def K5:=ca K4
def K6:=cb K4
def K8:=cb K5
def K9:=ca K8
def zS:=ca K9
def K11:=cb K9
def Bf:=ca K6
def AW:=cb K6
def AH:=cb Bf
def Aw:=ca AH
def Bg:=ca Aw
def AS:=cb Bg
def AO:=cb AS
def AV:=ca AO
def Br:=ca AV
def BO:=cb Br
def AN:=cb BO
def AE:=ca AN
def AG:=ca AE
def Bj:=cb AE
def Ca:=ca AW
def Cz:=cb Ca
def B9:=ca Cz
def K61:=ca B9
end fI
def fI.pt(hv e:zW)(f j:Nat)(H:zV)(R:zv):=
 ∀b H1,b=H.size->H1=H.push (.cells #[vi 0] 3)->
 ∀d H2,d=H1.size->H2=H1.push (.cells #[vi 0] 24)->
 ∀ak H3,ak=H2.size->H3=H2.push (.map #[] 0)->
 ∀m H4,m=H3.size->H4=H3.push (.cells #[.map none] 149)->
 (aH H4 (ad m) 0 1)/\ ∀H5,H5=aP H4 (ad m) [.map (some ak)] 0->
 fE.C hv H5 (λv H6=>v=v/\
 ∀(rc:LoopState->Option Code->Obj) (lp:Nat) (H7:zV),lp=H6.size+1->H7=(H6.push (.deferred (some []))).push (rc .ready none)->
 ∀vY,(∀(aa:Int) (x_3:Int) (H8:zV) (vRy:zv),H8[lp]?=some (rc .ready none)->
 (H8[lp]?=some (rc .ready none)/\ ∀H9,H9=aM H8 lp (rc .busy none)->
 if x_3=0 then(
 eY.C aa H9 (λbq bh=> ∃ap,bq=vi ap/\
 (aH bh (ad b) 0 1)/\ ∀ay,ay=aP bh (ad b) [vi ap] 0->
 (aH ay (ad d) 0 1)/\ ∀a4,a4=aP ay (ad d) [vi 9] 0->
 a4[lp]?=some (rc .busy none)/\
 vRy VF (aM a4 lp (rc .done (some .ret)))))
 else
 ∃az,hat H9 (ad m)=some (.map az)/\
 ∃mr,az=some mr/\
 ∃es cl ks,H9[mr]?=some (.map es cl)/\vb (aY .u64) es.toList ks/\
 ∀a1 cl_2 H13,H13=aM H9 mr (.map a1 cl_2)->vb (aY .u64) a1.toList (yM ks aa (vi x_3))->
 H13[lp]?=some (rc .busy none)/\
 vRy VT (aM H13 lp (rc .ready none)))->
 FC prog vY #[vu aa,vi x_3] H8 vRy)->
 FE prog v #[vY] H7 (λ_ a6=>
 (a6[lp]?=some (rc .ready none)/\ ∀aj,aj=aM a6 lp (rc .exhausted none)->
 gT.C hv aj (λbr bu=> ∃xB xN xC,br=vs xB xN xC/\
 ∃(aq:Int->(List Nat)->zV->Prop) (m29:Int->(List Nat)->zV->Nat),aq 0 (H6.size::[]) bu/\ ∀(p:Int) (ms:List Nat) (H17:zV),aq p ms H17->
 if p< (xN:Int)then(
 ∃ae,xB=some ae/\
 yZ p xN/\
 ∃an,hat H17 (ae.add (Int.toNat p*1))=some (vu an)/\
 bT.C hv an H17 (λao ai=>ao=ao/\
 ∀(ab:LoopState->Option Code->Obj) (lp_2:Nat) (H19:zV),lp_2=ai.size+1->H19=(ai.push (.deferred (some []))).push (ab .ready none)->
 ∀bn,(∀(ac:Int) (x_9:Int) (H20:zV) (vRy_2:zv),H20[lp_2]?=some (ab .ready none)->
 (H20[lp_2]?=some (ab .ready none)/\ ∀a3,a3=aM H20 lp_2 (ab .busy none)->
 ∃am,hat a3 (ad m)=some (.map am)/\
 fK.C x_9 am a3 (λbo a0=> ∃y,bo=vi y/\
 if y=0 then(
 a0[lp_2]?=some (ab .busy none)/\
 vRy_2 VT (aM a0 lp_2 (ab .ready none)))
 else
 (aH a0 (ad b) 0 1)/\ ∀ax,ax=aP a0 (ad b) [vi ac] 0->
 (aH ax (ad d) 0 1)/\ ∀a7,a7=aP ax (ad d) [vi y] 0->
 a7[lp_2]?=some (ab .busy none)/\
 vRy_2 VF (aM a7 lp_2 (ab .done (some .ret)))))->
 FC prog bn #[vi ac,vu x_9] H20 vRy_2)->
 FE prog ao #[bn] H19 (λ_ a5=>
 (a5[lp_2]?=some (ab .ready none)/\ ∀ah,ah=aM a5 lp_2 (ab .exhausted none)->
 (aq (zY (p+1)) (ai.size::ms) ah/\m29 (zY (p+1)) (ai.size::ms) ah<m29 p ms H17))\/
 (a5[lp_2]?=some (ab .done (some .ret))/\ ∀ah,ah=aM a5 lp_2 (ab .exhausted (some .ret))->
 Shut (ai.size::ms) ah (λbk=>
 ∃r,hat bk (ad b)=some (vi r)/\
 ∃bb,hat bk (ad d)=some (vi bb)/\
 R (.tuple #[vi r,vi bb]) bk)))))
 else
 iJ.C hv e f j H17 (λbp bs=> ∃af n q,bp=vs af n q/\
 ∃(a2:zw) (m62:Int->zV->Nat),a2 0 bs/\ ∀o H29,a2 o H29->
 if o< (n:Int)then(
 ∃u,af=some u/\
 yZ o n/\
 ∃ag,hat H29 (u.add (Int.toNat o*1))=some (vu ag)/\
 ∃al,hat H29 (ad m)=some (.map al)/\
 fK.C ag al H29 (λbt aw=> ∃z,bt=vi z/\
 if z=0 then(
 (a2 (zY (o+1)) aw/\m62 (zY (o+1)) aw<m62 o H29))
 else
 (aH aw (ad b) 0 1)/\ ∀au,au=aP aw (ad b) [vi (-1)] 0->
 (aH au (ad d) 0 1)/\ ∀bm,bm=aP au (ad d) [vi z] 0->
 Shut (ms) bm (λbg=>
 ∃be,hat bg (ad b)=some (vi be)/\
 ∃bc,hat bg (ad d)=some (vi bc)/\
 R (.tuple #[vi be,vi bc]) bg)))
 else
 jq.C hv H29 (λbw bf=> ∃ra rb,bw=.tuple #[vi ra,vi rb]/\
 (aH bf (ad b) 0 1)/\ ∀av,av=aP bf (ad b) [vi ra] 0->
 (aH av (ad d) 0 1)/\ ∀a8,a8=aP av (ad d) [vi rb] 0->
 Shut (ms) a8 (λa9=>
 ∃bd,hat a9 (ad b)=some (vi bd)/\
 ∃ba,hat a9 (ad d)=some (vi ba)/\
 R (.tuple #[vi bd,vi ba]) a9)))))\/
 (a6[lp]?=some (rc .done (some .ret))/\ ∀aj,aj=aM a6 lp (rc .exhausted (some .ret))->
 Shut (H6.size::[]) aj (λbi=>
 ∃bl,hat bi (ad b)=some (vi bl)/\
 ∃bj,hat bi (ad d)=some (vi bj)/\
 R (.tuple #[vi bl,vi bj]) bi))))
theorem fI.link{e:zW}{f j:Nat}(h:pt d e f j H R):C d e f j H R:=by
 refine sa K0 68 func78 ?_
 intro w0 Q hQ
 unfold pt zY at h
 refine nx [(0,vp d),(1,vs e f j)]<|ar 0<|t1 (some 4) (λb=>vp (pa b)) (.cells #[vi 0] 3)<|λb H1 e1 e2=>have h:=h b H1 e1 e2;kc [] [(4,vp (pa b))]<|t1 (some 5) (λb=>vp (pa b)) (.cells #[vi 0] 24)<|λhv H2 e3 e4=>have h:=h hv H2 e3 e4;kc [] [(5,vp (pa hv))]<|yH<|ar 1<|t1 (some 17) (λb=> .map (some b)) (.map #[] 0)<|λak H3 e5 e6=>have h:=h ak H3 e5 e6;kc [] [(17,.map (some ak))]<|t1 (some 6) (λb=>vp (pa b)) (.cells #[.map none] 149)<|λm H4 e7 e8=>have h:=h m H4 e7 e8;kc [] [(6,vp (pa m))]<|have⟨q10,h⟩:=h;eQ 149 (.map (some ak)) q10 ?_
 intro H5 e9
 replace h:=h H5 e9
 refine kc [17] []<|yH<|ge<|ar 2<|eH 1 [] [(18,vp d)]<|zC (some 19) h ?_;clear h
 rintro v H6 ⟨-,h⟩
 refine kc [18] [(19,v)]<|yH<|p0 0<|lA (g:=.tmp 19) (ps:= #[20,21]) (assign:=zS) (body:=K11) (v) (by kernel_rfl) (by kernel_rfl) (by kernel_rfl)<|λrc lp H7 r11 e12 e13 y14=>FE.mono (h rc lp H7 e12 e13 (.func (.yield lp) #[] #[]) ?_) ?_
 ·clear h
  refine λaa x_3 H8 vRy q15 h=>y14 #[vu aa,vi x_3] H8 vRy (by kernel_rfl) q15 (λw1x=>?_)
  refine Ai [] [(20,vu aa),(21,vi x_3)]<|ar 3<|eT 1 [0,1,19,20] [(7,vu aa)]<|oo 4<|eH 1 [21] [(8,vi x_3)]<|zq<|have⟨q17,h⟩:=h;aC<|lz r11 q17<|λH9 e16=>have h:=h H9 e16;p0 1<|ge<|ar 5<|eT 2 [] [(23,.bool (x_3==0))]<|qx h (λc18 h=>?_) (λc18 h=>?_)
  ·refine aJ 23 (zK c18)<|ar 6<|eH 1 [6,7,8,23] [(24,vu aa)]<|zC (some 25) h ?_;clear h
   rintro bq bh ⟨ap,rfl,h⟩
   refine kc [24] [(25,vi ap)]<|have⟨q21,h⟩:=h;eQ 3 (vi ap) q21<|λay e20=>have h:=h ay e20;kc [4,25] []<|have⟨q23,h⟩:=h;eQ 24 (vi 9) q23<|λa4 e22=>have h:=h a4 e22;⟨[],pk,?_⟩
   refine yH<|zx ?_
   show At _ _ _ _ _ (roundPost _ _ _ .ret)
   exact have⟨q24,h⟩:=h;vH r11 q24 h
  refine aK 23 (zJ c18)<|nc<|oo 7<|yS [4,5,23] []<|have⟨az,q25,h⟩:=h;hH 26 149 q25 [6]<|eH 2 [7,8] [(27,vu aa),(28,vi x_3)] ?_
  obtain⟨mr,rfl,es,cl,ks,q26,q27,ha⟩:=h
  refine mK none (m8 149 (.map (some mr)) (vu aa) (vi x_3)) (λHz=> ∃es2 cl2,Hz=aM H9 mr (.map es2 cl2)/\vb (aY .u64) es2.toList (yM ks aa (vi x_3))) (λ_=>by kernel_rfl) (λw hw=>by obtain⟨es2,cl2,q1,q2⟩:=nz (kk:=(aY .u64)) (P:=prog) (w:=w) (k:=aa) (v:=vi x_3) Ed underlying28 (by rw[hw];exact q26) q27;exact⟨_,q1,⟨rfl,rfl,rfl,CU _⟩,es2,cl2,by rw[<-hw],q2⟩) ?_
  rintro H13 ⟨a1,cl_2,e29,e30⟩
  refine have h:=ha a1 cl_2 H13 e29 e30;⟨[],pk,?_⟩
  exact zq<|aA<|have⟨q31,h⟩:=h;bW r11 q31 h
 clear h y14
 rintro _ a6 (⟨q32,h⟩ | ⟨q32,h⟩)
 ·refine .inl ⟨q32,λaj e84=>?_⟩
  refine have h:=h aj e84;kJ (H6.size::[]) rfl<|Ai [19] []<|aA<|aC<|ge<|ar 8<|eH 1 [] [(29,vp d)]<|zO 30 [29] h λxB xN xC bu h=>eT 2 [] [(31,vi xN),(32,vi 0)]<|p0 2<|have⟨aq,m29,i33,i34⟩:=h;rL (x:=Bg) (σ:=Int×(List Nat)) (λs_=> [(0,vp d),(1,vs e f j),(4,vp (pa b)),(5,vp (pa hv)),(6,vp (pa m)),(30,vs xB xN xC),(31,vi xN),(32,vi s_.1)]) (λs_=>s_.2) (λs_ H=>aq s_.1 s_.2 H) (λs_ H=>m29 s_.1 s_.2 H) ((0,(H6.size::[])):Int×(List Nat)) (by kernel_rfl) i33 sk ?_
  rintro⟨p,ms⟩ H17 i35
  have h:=i34 p ms H17 i35
  refine nx [(0,vp d),(1,vs e f j),(4,vp (pa b)),(5,vp (pa hv)),(6,vp (pa m)),(30,vs xB xN xC),(31,vi xN),(32,vi p)]<|ar 9<|eT 1 [] [(33,.bool (decide (p< (xN:Int))))]<|ge<|qx h (λc36 h=>?_) (λc36 h=>?_)
  ·refine aJ 33 (zX c36)<|nc<|ge<|p0 3<|ar 10<|yS [33] [] ?_
   obtain⟨ae,rfl,q38,hb⟩:=h
   refine yI (some 34) 32 28 1 ae xN xC .i64 p CO q38.1 q38.2 [30] [(30,vs (some ae) xN xC),(34,Vq (ae.add (Int.toNat p*1)))] ?_
   obtain⟨an,q39,h⟩:=hb
   refine hH 35 28 q39 [34]<|eT 1 [35] [(10,vu an)]<|ar 11<|eH 2 [10] [(36,vp d),(37,vu an)]<|zC (some 38) h ?_;clear h
   rintro ao ai ⟨-,h⟩
   refine kc [36,37] [(38,ao)]<|yH<|p0 4<|lA (g:=.tmp 38) (ps:= #[39,40]) (assign:=AG) (body:=Bj) (ao) (by kernel_rfl) (by kernel_rfl) (by kernel_rfl)<|λab lp_2 H19 r40 e41 e42 y43=>FE.mono (h ab lp_2 H19 e41 e42 (.func (.yield lp_2) #[] #[]) ?_) ?_
   ·clear h
    refine λac x_9 H20 vRy_2 q44 h=>y43 #[vi ac,vu x_9] H20 vRy_2 (by kernel_rfl) q44 (λw1x_2=>?_)
    refine Ai [] [(39,vi ac),(40,vu x_9)]<|ar 12<|eT 1 [0,1,30,31,32,38,39] [(11,vi ac)]<|oo 13<|eH 1 [40] [(12,vu x_9)]<|zq<|have⟨q46,h⟩:=h;aC<|lz r40 q46<|λa3 e45=>have h:=h a3 e45;p0 5<|ar 14<|eH 1 [12] [(41,vu x_9)]<|have⟨am,q47,h⟩:=h;hH 42 149 q47 [6]<|sv 43 [41,42] h λy a0 h=>eT 1 [43] [(13,vi y)]<|ar 15<|eT 2 [] [(45,.bool (y !=0))]<|qx h (λc48 h=>?_) (λc48 h=>?_)
    ·exact aK 45 (CX.mpr c48)<|zp<|aA<|have⟨q50,h⟩:=h;bW r40 q50 h
    refine aJ 45 (CY.mpr c48)<|ar 16<|eH 2 [11,13,45] [(46,vi ac),(47,vi y)]<|have⟨q52,h⟩:=h;eQ 3 (vi ac) q52<|λax e51=>have h:=h ax e51;kc [4,46] []<|have⟨q54,h⟩:=h;eQ 24 (vi y) q54<|λa7 e53=>have h:=h a7 e53;⟨[],pk,?_⟩
    refine yH<|zx ?_
    show At _ _ _ _ _ (roundPost _ _ _ .ret)
    exact have⟨q55,h⟩:=h;vH r40 q55 h
   clear h y43
   rintro _ a5 (⟨q56,h⟩ | ⟨q56,h⟩)
   ·refine .inl ⟨q56,λah e59=>?_⟩
    exact have h:=h ah e59;kJ (ai.size::ms) rfl<|Ai [38] []<|aA<|aA<|aC<|oo 17<|eT 2 [32] [(32,vi (zY (p+1)))]<|mc (mk:=(λs_=>s_.2)) (I:=(λs_ H=>aq s_.1 s_.2 H)) (μ:=(λs_ H=>m29 s_.1 s_.2 H)) (s:=(_,_)) (((zY (p+1)),(ai.size::ms)):Int×(List Nat)) sk h
   refine .inr ⟨_,q56,λah e59=>?_⟩
   refine have h:=h ah e59;kJ (ai.size::ms) rfl<|Ai [38] []<|uu rfl ?_
   show At _ _ _ _ _ (Q .ret)
   refine lw (fn:=f78) (ai.size::ms) hQ (DS (λbk h=>?_) h)
   exact have⟨r,q57,bb,q58,h⟩:=h;⟨[vi r,vi bb],(show bV _ _ _ [.cell 4 3,.cell 5 24] _ from .cell (by kernel_rfl) (gJ (λ_=>by kernel_rfl) q57) (.cell (by kernel_rfl) (gJ (λ_=>by kernel_rfl) q58) (.nil))),h⟩
  refine aK 33 (zQ c36)<|zk 2<|aB<|aB<|aN<|aC<|ge<|ar 18<|eH 2 [1,30,31,32,33] [(49,vp d),(50,vs e f j)]<|zO 51 [49,50] h λaf n q bs h=>eT 2 [] [(52,vi n),(53,vi 0)]<|p0 6<|have⟨a2,m62,i60,i61⟩:=h;bL (x:=K61) (σ:=Int) (λs_=> [(0,vp d),(4,vp (pa b)),(5,vp (pa hv)),(6,vp (pa m)),(51,vs af n q),(52,vi n),(53,vi s_)]) (λs_ H=>a2 s_ H) (λs_ H=>m62 s_ H) (0:Int) (by kernel_rfl) i60 sk ?_
  rintro o H29 i62
  have h:=i61 o H29 i62
  refine nx [(0,vp d),(4,vp (pa b)),(5,vp (pa hv)),(6,vp (pa m)),(51,vs af n q),(52,vi n),(53,vi o)]<|ar 19<|eT 1 [] [(54,.bool (decide (o< (n:Int))))]<|ge<|qx h (λc63 h=>?_) (λc63 h=>?_)
  ·refine aJ 54 (zX c63)<|nc<|ge<|p0 7<|ar 20<|yS [54] [] ?_
   obtain⟨u,rfl,q65,hc⟩:=h
   refine yI (some 55) 32 28 1 u n q .i64 o CO q65.1 q65.2 [51] [(51,vs (some u) n q),(55,Vq (u.add (Int.toNat o*1)))]<|have⟨ag,q66,h⟩:=hc;hH 56 28 q66 [55]<|eT 1 [56] [(15,vu ag)]<|ar 21<|eH 1 [15] [(57,vu ag)]<|have⟨al,q67,h⟩:=h;hH 58 149 q67 []<|sv 59 [57,58] h λz aw h=>eT 1 [59] [(16,vi z)]<|ar 22<|eT 2 [] [(61,.bool (z !=0))]<|qx h (λc68 h=>?_) (λc68 h=>?_)
   ·exact aK 61 (CX.mpr c68)<|zp<|aA<|aC<|oo 24<|eT 2 [16,53,61] [(53,vi (zY (o+1)))]<|aR ((zY (o+1)):Int) sk h
   refine aJ 61 (CY.mpr c68)<|ar 23<|eH 1 [0,6,16,51,52,53,61] [(62,vi z)]<|have⟨q71,h⟩:=h;eQ 3 (vi (-1)) q71<|λau e70=>have h:=h au e70;kc [] []<|have⟨q73,h⟩:=h;eQ 24 (vi z) q73<|λbm e72=>have h:=h bm e72;kc [62] []<|yH<|zx ?_
   show At _ _ _ _ _ (Q .ret)
   refine lw (fn:=f78) (ms) hQ (DS (λbg h=>?_) h)
   exact have⟨be,q74,bc,q75,h⟩:=h;⟨[vi be,vi bc],(show bV _ _ _ [.cell 4 3,.cell 5 24] _ from .cell (by kernel_rfl) (gJ (λ_=>by kernel_rfl) q74) (.cell (by kernel_rfl) (gJ (λ_=>by kernel_rfl) q75) (.nil))),h⟩
  refine aK 54 (zQ c63)<|zk 6<|aB<|aB<|aN<|aC<|ar 25<|eH 1 [0,6,51,52,53,54] [(64,vp d)]<|yT 65 [64] h λra rb bf h=>eH 2 [65] [(66,vi ra),(67,vi rb)]<|have⟨q77,h⟩:=h;eQ 3 (vi ra) q77<|λav e76=>have h:=h av e76;kc [66] []<|have⟨q79,h⟩:=h;eQ 24 (vi rb) q79<|λa8 e78=>have h:=h a8 e78;kc [67] []<|yH<|zx ?_
  show At _ _ _ _ _ (Q .ret)
  refine lw (fn:=f78) (ms) hQ (DS (λa9 h=>?_) h)
  exact have⟨bd,q80,ba,q81,h⟩:=h;⟨[vi bd,vi ba],(show bV _ _ _ [.cell 4 3,.cell 5 24] _ from .cell (by kernel_rfl) (gJ (λ_=>by kernel_rfl) q80) (.cell (by kernel_rfl) (gJ (λ_=>by kernel_rfl) q81) (.nil))),h⟩
 refine .inr ⟨_,q32,λaj e84=>?_⟩
 refine have h:=h aj e84;kJ (H6.size::[]) rfl<|Ai [19] []<|uu rfl ?_
 show At _ _ _ _ _ (Q .ret)
 refine lw (fn:=f78) (H6.size::[]) hQ (DS (λbi h=>?_) h)
 exact have⟨bl,q82,bj,q83,h⟩:=h;⟨[vi bl,vi bj],(show bV _ _ _ [.cell 4 3,.cell 5 24] _ from .cell (by kernel_rfl) (gJ (λ_=>by kernel_rfl) q82) (.cell (by kernel_rfl) (gJ (λ_=>by kernel_rfl) q83) (.nil))),h⟩
variable{H:zV}{R:zv}{d j:zW}{i:Int}
namespace jt
def K0:=EP f83
def K2:=cb K0
def K4:=cb K2
def K6:=cb K4
def K8:=cb K6
def K9:=ca K8
def zS:=cb K8
def zy:=cb K9
def Aq:=ca zy
def Ab:=ca Aq
def AH:=ca zS
def Av:=cb AH
def AS:=ca Av
def Ae:=ca AS
def Af:=cb Ae
def Bm:=ca Af
def Bz:=ca Bm
def AN:=ca Bz
def AE:=cb Bz
def AG:=ca AE
def Bj:=ca AG
def Bp:=cb AG
end jt
def jt.pt(hv n:zW)(d m:Nat)(H:zV)(R:zv):=
 ∀b H1,b=H.size->H1=H.push (.cells #[vp hv] 23)->
 ∀a0 H2,a0=H1.size->H2=H1.push (.map #[] 0)->
 ∀j H3,j=H2.size->H3=H2.push (.cells #[.map none] 149)->
 (aH H3 (ad j) 0 1)/\ ∀H4,H4=aP H3 (ad j) [.map (some a0)] 0->
 ∀f H5,f=H4.size->H5=H4.push (.cells #[VN] 32)->
 ∀e H6,e=H5.size->H6=H5.push (.cells #[.nilFunc] 198)->
 (aH H6 (ad e) 0 1)/\ ∀H7,H7=aP H6 (ad e) [.func (.func 123) #[] #[Vq (ad b),Vq (ad j),Vq (ad f)]] 0->
 ∃(bf:zw) (m15:Int->zV->Nat),bf 0 H7/\ ∀p H8,bf p H8->
 if p< (d:Int)then(
 ∃o,n=some o/\
 yZ p d/\
 ∃x,hat H8 (o.add (Int.toNat p*1))=some (vu x)/\
 ∃a8,hat H8 (ad e)=some (a8)/\
 FC prog a8 #[vu x] H8 (λ_ H9=>
 (bf (zY (p+1)) H9/\m15 (zY (p+1)) H9<m15 p H8)))
 else
 ∀ao H10,ao=H8.size->H10=H8.push (.cells #[vi 0] 3)->
 (aH H10 (ad ao) 0 1)/\ ∀bi,bi=aP H10 (ad ao) [vi 0] 0->
 ∃(bc:zW->(List Nat)->zV->Prop) (m32:zW->(List Nat)->zV->Nat),bc (some (ad ao)) ([]) bi/\ ∀(i:zW) (ms:List Nat) (H12:zV),bc i ms H12->
 ∃iA,i=some iA/\
 ∃av,hat H12 iA=some (vi av)/\
 ∃xB xN xC,hat H12 (ad f)=some (vs xB xN xC)/\
 if av< (xN:Int)then(
 ∃ak,hat H12 (ad b)=some (vp ak)/\
 ∃bh ag ap,hat H12 (ad f)=some (vs bh ag ap)/\
 ∃ae,hat H12 iA=some (vi ae)/\
 ∃u,bh=some u/\
 yZ ae ag/\
 ∃bb,hat H12 (u.add (Int.toNat ae*1))=some (vu bb)/\
 bT.C ak bb H12 (λa5 ba=>a5=a5/\
 ∀(rc:LoopState->Option Code->Obj) (lp:Nat) (H14:zV),lp=ba.size+1->H14=(ba.push (.deferred (some []))).push (rc .ready none)->
 ∀vY,(∀(q:Int) (x_9:Int) (H15:zV) (vRy:zv),H15[lp]?=some (rc .ready none)->
 (H15[lp]?=some (rc .ready none)/\ ∀a6,a6=aM H15 lp (rc .busy none)->
 ∃a2 au ay,hat a6 (ad f)=some (vs a2 au ay)/\
 ∃y,hat a6 iA=some (vi y)/\
 ∃aj,a2=some aj/\
 yZ y au/\
 ∃a4,hat a6 (aj.add (Int.toNat y*1))=some (vu a4)/\
 cM.C a4 a6 (λbo a7=> ∃an,bo=vi an/\
 if an=2 then(
 ∃a3 al az,hat a7 (ad f)=some (vs a3 al az)/\
 ∃z,hat a7 iA=some (vi z)/\
 ∃am,a3=some am/\
 yZ z al/\
 ∃a1,hat a7 (am.add (Int.toNat z*1))=some (vu a1)/\
 eY.C a1 a7 (λbm bg=> ∃aq,bm=vi aq/\
 if q>aq then(
 ∃aw,hat bg (ad e)=some (aw)/\
 FC prog aw #[vu x_9] bg (λ_ bj=>
 bj[lp]?=some (rc .busy none)/\
 vRy VT (aM bj lp (rc .ready none))))
 else
 bg[lp]?=some (rc .busy none)/\
 vRy VT (aM bg lp (rc .ready none))))
 else
 ∃ax,hat a7 (ad e)=some (ax)/\
 FC prog ax #[vu x_9] a7 (λ_ bk=>
 bk[lp]?=some (rc .busy none)/\
 vRy VT (aM bk lp (rc .ready none)))))->
 FC prog vY #[vi q,vu x_9] H15 vRy)->
 FE prog a5 #[vY] H14 (λ_ bl=>
 (bl[lp]?=some (rc .ready none)/\ ∀bd,bd=aM bl lp (rc .exhausted none)->
 ∃ah,hat bd iA=some (vi ah)/\
 ∀r H23,r=bd.size->H23=bd.push (.cells #[vi 0] 3)->
 (aH H23 (ad r) 0 1)/\ ∀a9,a9=aP H23 (ad r) [vi ah] 0->
 ∃ai,hat a9 (ad r)=some (vi ai)/\
 (aH a9 (ad r) 0 1)/\ ∀be,be=aP a9 (ad r) [vi (zY (ai+1))] 0->
 (bc (some (ad r)) (ba.size::ms) be/\m32 (some (ad r)) (ba.size::ms) be<m32 i ms H12)))))
 else
 ∃ab aa ac,hat H12 (ad f)=some (vs ab aa ac)/\
 ∃af,hat H12 (ad j)=some (.map af)/\
 Shut (ms) H12 (λbn=>
 R (.tuple #[vs ab aa ac,.map af]) bn)
theorem jt.link{n m:Nat}(h:pt d j n m H R):C d j n m H R:=by
 refine sa K0 61 func83 ?_
 intro w0 Q hQ
 unfold pt zY at h
 refine nx [(0,vp d),(1,vs j n m)]<|ar 0<|t1 (some 2) (λb=>vp (pa b)) (.cells #[vp d] 23)<|λb H1 e1 e2=>have h:=h b H1 e1 e2;kc [0] [(2,vp (pa b))]<|eT 2 [] []<|ar 1<|t1 (some 14) (λb=> .map (some b)) (.map #[] 0)<|λa0 H2 e3 e4=>have h:=h a0 H2 e3 e4;kc [] [(14,.map (some a0))]<|t1 (some 6) (λb=>vp (pa b)) (.cells #[.map none] 149)<|λhv H3 e5 e6=>have h:=h hv H3 e5 e6;kc [] [(6,vp (pa hv))]<|have⟨q8,h⟩:=h;eQ 149 (.map (some a0)) q8<|λH4 e7=>have h:=h H4 e7;kc [14] []<|yH<|ar 2<|t1 (some 7) (λb=>vp (pa b)) (.cells #[VN] 32)<|λf H5 e9 e10=>have h:=h f H5 e9 e10;kc [] [(7,vp (pa f))]<|yH<|ar 3<|eH 1 [] [(15,.func (.func 123) #[] #[vp (pa b),vp (pa hv),vp (pa f)])]<|t1 (some 8) (λb=>vp (pa b)) (.cells #[.nilFunc] 198)<|λe H6 e11 e12=>have h:=h e H6 e11 e12;kc [] [(8,vp (pa e))]<|have⟨q14,h⟩:=h;eQ 198 (.func (.func 123) #[] #[vp (pa b),vp (pa hv),vp (pa f)]) q14<|λH7 e13=>have h:=h H7 e13;kc [15] []<|yH<|ge<|ar 4<|eT 3 [1] [(16,vs j n m),(17,vi n),(18,vi 0)]<|p0 0<|have⟨bf,m15,i15,i16⟩:=h;bL (x:=Ab) (σ:=Int) (λs_=> [(2,vp (pa b)),(6,vp (pa hv)),(7,vp (pa f)),(8,vp (pa e)),(16,vs j n m),(17,vi n),(18,vi s_)]) (λs_ H=>bf s_ H) (λs_ H=>m15 s_ H) (0:Int) (by kernel_rfl) i15 sk ?_
 rintro p H8 i17
 have h:=i16 p H8 i17
 refine nx [(2,vp (pa b)),(6,vp (pa hv)),(7,vp (pa f)),(8,vp (pa e)),(16,vs j n m),(17,vi n),(18,vi p)]<|ar 5<|eT 1 [] [(19,.bool (decide (p< (n:Int))))]<|ge<|qx h (λc18 h=>?_) (λc18 h=>?_)
 ·refine aJ 19 (zX c18)<|nc<|ge<|p0 1<|ar 6<|yS [19] [] ?_
  obtain⟨o,rfl,q20,ha⟩:=h
  refine yI (some 20) 32 28 1 o n m .i64 p CO q20.1 q20.2 [16] [(16,vs (some o) n m),(20,Vq (o.add (Int.toNat p*1)))]<|have⟨x,q21,h⟩:=ha;hH 21 28 q21 [20]<|eT 1 [21] [(10,vu x)]<|oo 7 ?_
  obtain⟨a8,q22,h⟩:=h
  refine hH 22 198 q22 []<|eH 1 [10] [(23,vu x)]<|na (some 24) a8 #[vu x] (λ_=>by kernel_rfl) h ?_;clear h
  exact λv H9 h=>kc [22,23] []<|zq<|aA<|aC<|oo 8<|eT 2 [18] [(18,vi (zY (p+1)))]<|aR ((zY (p+1)):Int) sk h
 refine aK 19 (zQ c18)<|zk 0<|aB<|aB<|aN<|aC<|ge<|ar 9<|yS [16,17,18,19] []<|t1 (some 11) (λb=>vp (pa b)) (.cells #[vi 0] 3)<|λao H10 e23 e24=>have h:=h ao H10 e23 e24;kc [] [(11,vp (pa ao))]<|have⟨q26,h⟩:=h;eQ 3 (vi 0) q26<|λbi e25=>have h:=h bi e25;kc [] []<|yH<|p0 2<|have⟨bc,m32,i27,i28⟩:=h;rL (x:=Ae) (σ:=zW×(List Nat)) (λs_=> [(2,vp (pa b)),(6,vp (pa hv)),(7,vp (pa f)),(8,vp (pa e)),(11,vp s_.1)]) (λs_=>s_.2) (λs_ H=>bc s_.1 s_.2 H) (λs_ H=>m32 s_.1 s_.2 H) (((pa ao),([])):zW×(List Nat)) (by kernel_rfl) i27 sk ?_
 rintro⟨i,ms⟩ H12 i29
 have h:=i28 i ms H12 i29
 refine nx [(2,vp (pa b)),(6,vp (pa hv)),(7,vp (pa f)),(8,vp (pa e)),(11,vp i)]<|ge<|ar 10 ?_
 obtain⟨iA,rfl,av,q30,hb⟩:=h
 refine As (some 26) 3 q30 [11] [(11,Vq iA),(26,vi av)]<|have⟨xB,xN,xC,q31,h⟩:=hb;hH 27 32 q31 []<|eT 2 [26,27] [(29,.bool (decide (av< (xN:Int))))]<|qx h (λc32 h=>?_) (λc32 h=>?_)
 ·refine aJ 29 (zX c32)<|nc<|ge<|p0 3<|ge ?_
  obtain⟨ak,q34,bh,ag,ap,q35,ae,q36,u,rfl,q37,bb,q38,hc⟩:=h
  refine yq 12 (Code.ops AN) [(5,(ad b),[vp ak]),(5,(ad f),[vs (some u) ag ap]),(5,iA,[vi ae]),(5,(u.add (Int.toNat ae*1)),[vu bb])] 6 (bv 6 0) (show aE _ _ _ from⟨⟨q34,EO⟩,⟨q35,EO⟩,⟨q36,EO⟩,⟨q38,EO⟩,EO⟩)<|zB 0 (some 32) (vp ak) (bv 6 1) [(2,vp (pa b)),(6,vp (pa hv)),(7,vp (pa f)),(8,vp (pa e)),(11,vp (some iA)),(32,vp ak)] (aQ 23 (vp (pa b))) (yY 5 yX)<|kT 1 33 (vs (some u) ag ap) (bv 6 3) [] (aQ 32 (vp (pa f))) (yY 5 yQ)<|kT 2 34 (vi ae) (bv 6 7) [] (aQ 3 (vp (some iA))) (yY 5 yJ)<|kT 3 35 (vp (some (u.add (Int.toNat ae*1)))) (bv 6 15) [33,34] (bE 32 (vs (some u) ag ap) (vi ae)) (λ_ w _ _ _=>dZ (P:=prog) (t:=32) (elem:=28) (sz:=1) (a:=u) (len:=ag) (cap:=ap) (k:=.i64) (i:=ae) CO (λ_=>by kernel_rfl) q37.1 q37.2 w)<|kT 4 36 (vu bb) (bv 6 31) [35] (aQ 28 (vp (some (u.add (Int.toNat ae*1))))) (yY 5 yK)<|yx 5 (some 37) (bv 6 63) 117 #[vp ak,vu bb] hc ?_;clear hc
  rintro a5 ba ⟨-,h⟩
  refine⟨[(2,vp (pa b)),(6,vp (pa hv)),(7,vp (pa f)),(8,vp (pa e)),(11,Vq iA),(37,a5)],pk,(show aE _ _ _ from⟨EO,EO,EO,EO,EO⟩),?_⟩
  refine eq [(2,vp (pa b)),(6,vp (pa hv)),(7,vp (pa f)),(8,vp (pa e)),(11,Vq iA),(37,a5)] sk<|yz<|aC<|p0 4<|lA (g:=.tmp 37) (ps:= #[38,39]) (assign:=Bj) (body:=Bp) (a5) (by kernel_rfl) (by kernel_rfl) (by kernel_rfl)<|λrc lp H14 r39 e40 e41 y42=>FE.mono (h rc lp H14 e40 e41 (.func (.yield lp) #[] #[]) ?_) ?_
  ·clear h
   refine λq x_9 H15 vRy q43 h=>y42 #[vi q,vu x_9] H15 vRy (by kernel_rfl) q43 (λw1x=>?_)
   refine nx [(2,vp (pa b)),(6,vp (pa hv)),(7,vp (pa f)),(8,vp (pa e)),(11,Vq iA),(37,a5),(38,vi q),(39,vu x_9)]<|ar 13<|eT 1 [2,6,37,38] [(12,vi q)]<|oo 14<|eH 1 [39] [(13,vu x_9)]<|zq<|have⟨q45,h⟩:=h;aC<|lz r39 q45<|λa6 e44=>have h:=h a6 e44;p0 5<|ar 15<|have⟨a2,au,ay,q46,h⟩:=h;hH 40 32 q46 []<|have⟨y,q47,h⟩:=h;hH 41 3 q47 [] ?_
   obtain⟨aj,rfl,q48,hd⟩:=h
   refine yI (some 42) 32 28 1 aj au ay .i64 y CO q48.1 q48.2 [40,41] [(42,Vq (aj.add (Int.toNat y*1)))]<|have⟨a4,q49,h⟩:=hd;hH 43 28 q49 [42]<|sv 44 [43] h λan a7 h=>eH 2 [44] [(46,.bool (an !=2))]<|qx h (λc50 h=>?_) (λc50 h=>?_)
   ·refine o0 46 (CX.mpr c50)<|eH 1 [12] [(47,vi q)]<|have⟨a3,al,az,q52,h⟩:=h;hH 48 32 q52 [7]<|have⟨z,q53,h⟩:=h;hH 49 3 q53 [11] ?_
    obtain⟨am,rfl,q54,he⟩:=h
    refine yI (some 50) 32 28 1 am al az .i64 z CO q54.1 q54.2 [48,49] [(50,Vq (am.add (Int.toNat z*1)))]<|have⟨a1,q55,h⟩:=he;hH 51 28 q55 [50]<|sv 52 [51] h λaq bg h=>eT 2 [46,47,52] [(54,.bool (decide (q>aq)))]<|qx h (λc56 h=>?_) (λc56 h=>?_)
    ·refine aJ 54 (zX c56)<|oo 16<|yS [54] [] ?_
     obtain⟨aw,q58,h⟩:=h
     refine hH 55 198 q58 [8]<|eH 1 [13] [(56,vu x_9)]<|na (some 57) aw #[vu x_9] (λ_=>by kernel_rfl) h ?_;clear h
     refine λv_5 bj h=>⟨[],pk,?_⟩
     exact zq<|aA<|have⟨q59,h⟩:=h;bW r39 q59 h
    exact aK 54 (zQ c56)<|zp<|aA<|have⟨q60,h⟩:=h;bW r39 q60 h
   refine o0 46 (CY.mpr c50)<|eT 8 [7,11,12,46] [(54,VT)]<|wc 54<|oo 16<|yS [54] [] ?_
   obtain⟨ax,q61,h⟩:=h
   refine hH 55 198 q61 [8]<|eH 1 [13] [(56,vu x_9)]<|na (some 57) ax #[vu x_9] (λ_=>by kernel_rfl) h ?_;clear h
   refine λv_6 bk h=>⟨[],pk,?_⟩
   exact zq<|aA<|have⟨q62,h⟩:=h;bW r39 q62 h
  clear h y42
  rintro _ bl (⟨q63,h⟩)
  refine .inl ⟨q63,λbd e72=>?_⟩
  exact have h:=h bd e72;kJ (ba.size::ms) rfl<|nx [(2,vp (pa b)),(6,vp (pa hv)),(7,vp (pa f)),(8,vp (pa e)),(11,Vq iA)]<|aA<|aA<|aC<|ge<|ar 17<|have⟨ah,q64,h⟩:=h;hH 58 3 q64 [11]<|yH<|oo 18<|t1 (some 11) (λb=>vp (pa b)) (.cells #[vi 0] 3)<|λr H23 e65 e66=>have h:=h r H23 e65 e66;kc [] [(11,vp (pa r))]<|have⟨q68,h⟩:=h;eQ 3 (vi ah) q68<|λa9 e67=>have h:=h a9 e67;kc [58] []<|yH<|oo 11<|have⟨ai,q69,h⟩:=h;hH 30 3 q69 []<|eH 1 [30] [(31,vi (zY (ai+1)))]<|have⟨q71,h⟩:=h;eQ 3 (vi (zY (ai+1))) q71<|λbe e70=>have h:=h be e70;kc [31] []<|yH<|mc (mk:=(λs_=>s_.2)) (I:=(λs_ H=>bc s_.1 s_.2 H)) (μ:=(λs_ H=>m32 s_.1 s_.2 H)) (s:=(_,_)) (((pa r),(ba.size::ms)):zW×(List Nat)) sk h
 refine aK 29 (zQ c32)<|zk 2<|aB<|aB<|aN<|aC<|ge<|qV 19<|have⟨ab,aa,ac,q73,h⟩:=h;B8 (some 59) 32 q73 [(6,vp (pa hv)),(59,vs ab aa ac)]<|have⟨af,q74,h⟩:=h;np (some 60) 149 q74 [6] [(60,.map af)]<|u8 4 (vs ab aa ac) [59]<|u8 5 (.map af) [60]<|ni [(4,vs ab aa ac),(5,.map af)] sk<|AC<|zx ?_
 show At _ _ _ _ _ (Q .ret)
 refine lw (fn:=f83) (ms) hQ (DS (λbn h=>?_) h)
 exact⟨[vs ab aa ac,.map af],(show bV _ _ _ [.tmp 4,.tmp 5] _ from .tmp (by kernel_rfl) (.tmp (by kernel_rfl) (.nil))),h⟩
def fE.K0:=EP f115
def fE.pt(hv:zW)(H:zV)(R:zv):=
 ∀b H1,b=H.size->H1=H.push (.cells #[vp hv] 23)->
 R (.func (.func 136) #[] #[Vq (ad b)]) H1
theorem fE.link(h:pt d H R):C d H R:=by
 refine sa K0 4 func115 ?_
 intro w0 Q hQ
 unfold pt at h
 refine nx [(0,vp d)]<|ar 0<|t1 (some 1) (λb=>vp (pa b)) (.cells #[vp d] 23)<|λb H1 e1 e2=>have h:=h b H1 e1 e2;⟨[(1,vp (pa b))],pk,?_⟩
 exact eT 1 [] []<|ar 1<|kb 2 [2] [.func (.func 136) #[] #[vp (pa b)]] hQ h
def eY.K0:=EP f116
def eY.pt(wv:Int)(H:zV)(R:zv):=
 gK.C wv H (λv H1=> ∃ra rb,v=.tuple #[vi ra,.bool rb]/\
 R (vi ra) H1)
theorem eY.link(h:pt i H R):C i H R:=by
 refine sa K0 11 func116 ?_
 intro w0 Q hQ
 unfold pt at h
 exact nx [(0,vu i)]<|ar 0<|eT 1 [] []<|ar 1<|va 1 [(6,vu i)]<|zI 7 (λra rb=>[(7,.tuple #[vi ra,.bool rb])]) h λra rb H1 h=>u5 5 [(3,vi ra)]<|ar 2<|kb 2 [2] [vi ra] hQ h
def bT.K0:=EP f117
def bT.pt(hv:zW)(wv:Int)(H:zV)(R:zv):=
 ∀b H1,b=H.size->H1=H.push (.cells #[vp hv] 23)->
 ∀a H2,a=H1.size->H2=H1.push (.cells #[vu wv] 28)->
 R (.func (.func 138) #[] #[Vq (ad b),Vq (ad a)]) H2
theorem bT.link(h:pt d i H R):C d i H R:=by
 refine sa K0 6 func117 ?_
 intro w0 Q hQ
 unfold pt at h
 exact nx [(0,vp d),(1,vu i)]<|ar 0<|t1 (some 2) (λb=>vp (pa b)) (.cells #[vp d] 23)<|λb H1 e1 e2=>have h:=h b H1 e1 e2;kc [0] [(2,vp (pa b))]<|t1 (some 3) (λb=>vp (pa b)) (.cells #[vu i] 28)<|λa H2 e3 e4=>have h:=h a H2 e3 e4;kc [1] [(3,vp (pa a))]<|eT 1 [] []<|ar 1<|kb 2 [4] [.func (.func 138) #[] #[vp (pa b),vp (pa a)]] hQ h
def fK.K0:=EP f118
def fK.pt(wv:Int)(a:Option Nat)(H:zV)(R:zv):=
 cM.C wv H (λv H1=> ∃x,v=vi x/\
 if x=5 then(
 R (vi 1) H1)
 else
 if x=6 then(
 R (vi 1) H1)
 else
 if x=1 then(
 dX.C wv H1 (λaj H2=> ∃p,aj=.bool p/\
 if p=true then(
 ∃mr,a=some mr/\
 ∃es cl ks,H2[mr]?=some (.map es cl)/\vb (aY .u64) es.toList ks/\
 ∃n,(yG ks wv).getD (vi 0)=vi n/\
 if n=0 then(
 R (vi 18) H2)
 else
 dX.C wv H2 (λal H3=> ∃k,al=.bool k/\
 if k=true then(
 R (vi 0) H3)
 else
 R (vi 1) H3))
 else
 dX.C wv H2 (λaf H4=> ∃j,af=.bool j/\
 if j=true then(
 R (vi 0) H4)
 else
 R (vi 1) H4)))
 else
 if x=2 then(
 dX.C wv H1 (λag H5=> ∃q,ag=.bool q/\
 if q=true then(
 ∃r,a=some r/\
 ∃t cl_2 ks_2,H5[r]?=some (.map t cl_2)/\vb (aY .u64) t.toList ks_2/\
 ∃o,(yG ks_2 wv).getD (vi 0)=vi o/\
 if o=0 then(
 R (vi 18) H5)
 else
 dX.C wv H5 (λai H6=> ∃m,ai=.bool m/\
 if m=true then(
 R (vi 0) H6)
 else
 R (vi 1) H6))
 else
 dX.C wv H5 (λah H7=> ∃i,ah=.bool i/\
 if i=true then(
 R (vi 0) H7)
 else
 R (vi 1) H7)))
 else
 if x=3 then(
 dX.C wv H1 (λak H8=> ∃g,ak=.bool g/\
 if g=true then(
 ∃s,a=some s/\
 ∃u cl_3 ks_3,H8[s]?=some (.map u cl_3)/\vb (aY .u64) u.toList ks_3/\
 ∃f,(yG ks_3 wv).getD (vi 0)=vi f/\
 if f=0 then(
 R (vi 18) H8)
 else
 dX.C wv H8 (λae H9=> ∃e,ae=.bool e/\
 if e=true then(
 R (vi 0) H9)
 else
 R (vi 1) H9))
 else
 dX.C wv H8 (λaa y=> ∃d,aa=.bool d/\
 if d=true then(
 R (vi 0) y)
 else
 R (vi 1) y)))
 else
 dX.C wv H1 (λab ac=> ∃b,ab=.bool b/\
 if b=true then(
 R (vi 0) ac)
 else
 R (vi 1) ac))
theorem fK.link{a:Option Nat}(h:pt i a H R):C i a H R:=by
 refine sa K0 25 func118 ?_
 intro w0 Q hQ
 unfold pt at h
 refine nx [(0,vu i),(1,.map a)]<|ar 0<|eT 1 [] []<|ge<|ar 1<|eH 1 [] [(5,vu i)]<|sv 6 [5] h λx H1 h=>yH<|p0 0<|ge<|ar 2<|eT 2 [] [(7,.bool (x==5))]<|qx h (λc1 h=>?_) (λc1 h=>?_)
 ·exact xl 7 (zK c1)<|wc 7<|nc<|wc 7<|ar 4<|kb 1 [4] [vi 1] hQ h
 refine xl 7 (zJ c1)<|yL 7<|oo 3<|eT 2 [7] [(7,.bool (x==6))]<|qx h (λc3 h=>?_) (λc3 h=>?_)
 ·exact aJ 7 (zK c3)<|ar 4<|kb 1 [4] [vi 1] hQ h
 refine aK 7 (zJ c3)<|ge<|ar 5<|eT 2 [7] [(10,.bool (x==1))]<|qx h (λc5 h=>?_) (λc5 h=>?_)
 ·refine xl 10 (zK c5)<|wc 10<|nc<|wc 10<|ar 8<|eH 1 [6,10] [(14,vu i)]<|sv 15 [14] h λp H2 h=>eH 1 [15] [(16,.bool p)]<|qx h (λc7 h=>?_) (λc7 h=>?_)
  ·refine o0 16 c7<|eH 2 [1] [(17,.map a),(18,vu i)] ?_
   obtain⟨mr,rfl,es,cl,ks,q9,q10,n,e16,ha⟩:=h
   have h:=ha
   refine zd 19 (jR 149 (.map (some mr)) (vu i) false) (vi n) (λw hw=>(iB (kk:=(aY .u64)) (z:=vi 0) Ed underlying28 (λ_=>by kernel_rfl) (by rw[hw];exact q9) q10 false).trans (by simp only[if_true,Dj,Df,e16])) [17,18]<|eT 2 [16,19] [(21,.bool (n==0))] ?_
   revert h;refine Bo (λc12 h=>?_) (λc12 h=>?_)
   ·exact aJ 21 (zK c12)<|ar 9<|kb 1 [4] [vi 18] hQ h
   refine aK 21 (zJ c12)<|zp<|aA<|aC<|ge<|ar 10<|va 1 [(22,vu i)]<|zo 23 (λk=>[(23,.bool k)]) h λk H3 h=>u5 1 [(24,.bool (!k))]<|qx h (λc14 h=>?_) (λc14 h=>?_)
   ·exact aK 24 (CJ Bool.not (c14))<|nc<|ar 12<|kb 1 [4] [vi 0] hQ h
   exact aJ 24 (CJ Bool.not (zZ c14))<|ar 11<|kb 1 [4] [vi 1] hQ h
  refine o0 16 (zZ c7)<|eT 5 [1,16] [(21,VF)]<|yL 21<|zp<|aA<|aC<|ge<|ar 10<|va 1 [(22,vu i)]<|zo 23 (λj=>[(23,.bool j)]) h λj H4 h=>u5 1 [(24,.bool (!j))]<|qx h (λc18 h=>?_) (λc18 h=>?_)
  ·exact aK 24 (CJ Bool.not (c18))<|nc<|ar 12<|kb 1 [4] [vi 0] hQ h
  exact aJ 24 (CJ Bool.not (zZ c18))<|ar 11<|kb 1 [4] [vi 1] hQ h
 refine xl 10 (zJ c5)<|yL 10<|ar 6<|eT 2 [10] [(10,.bool (x==2))]<|qx h (λc20 h=>?_) (λc20 h=>?_)
 ·refine xl 10 (zK c20)<|wc 10<|nc<|wc 10<|ar 8<|eH 1 [6,10] [(14,vu i)]<|sv 15 [14] h λq H5 h=>eH 1 [15] [(16,.bool q)]<|qx h (λc22 h=>?_) (λc22 h=>?_)
  ·refine o0 16 c22<|eH 2 [1] [(17,.map a),(18,vu i)] ?_
   obtain⟨r,rfl,t,cl_2,ks_2,q24,q25,o,e31,hb⟩:=h
   have h:=hb
   refine zd 19 (jR 149 (.map (some r)) (vu i) false) (vi o) (λw hw=>(iB (kk:=(aY .u64)) (z:=vi 0) Ed underlying28 (λ_=>by kernel_rfl) (by rw[hw];exact q24) q25 false).trans (by simp only[if_true,Dj,Df,e31])) [17,18]<|eT 2 [16,19] [(21,.bool (o==0))] ?_
   revert h;refine Bo (λc27 h=>?_) (λc27 h=>?_)
   ·exact aJ 21 (zK c27)<|ar 9<|kb 1 [4] [vi 18] hQ h
   refine aK 21 (zJ c27)<|zp<|aA<|aC<|ge<|ar 10<|va 1 [(22,vu i)]<|zo 23 (λm=>[(23,.bool m)]) h λm H6 h=>u5 1 [(24,.bool (!m))]<|qx h (λc29 h=>?_) (λc29 h=>?_)
   ·exact aK 24 (CJ Bool.not (c29))<|nc<|ar 12<|kb 1 [4] [vi 0] hQ h
   exact aJ 24 (CJ Bool.not (zZ c29))<|ar 11<|kb 1 [4] [vi 1] hQ h
  refine o0 16 (zZ c22)<|eT 5 [1,16] [(21,VF)]<|yL 21<|zp<|aA<|aC<|ge<|ar 10<|va 1 [(22,vu i)]<|zo 23 (λwv=>[(23,.bool wv)]) h λwv H7 h=>u5 1 [(24,.bool (!wv))]<|qx h (λc33 h=>?_) (λc33 h=>?_)
  ·exact aK 24 (CJ Bool.not (c33))<|nc<|ar 12<|kb 1 [4] [vi 0] hQ h
  exact aJ 24 (CJ Bool.not (zZ c33))<|ar 11<|kb 1 [4] [vi 1] hQ h
 refine xl 10 (zJ c20)<|yL 10<|oo 7<|eT 2 [6,10] [(10,.bool (x==3))]<|qx h (λc35 h=>?_) (λc35 h=>?_)
 ·refine aJ 10 (zK c35)<|ar 8<|eH 1 [10] [(14,vu i)]<|sv 15 [14] h λg H8 h=>eH 1 [15] [(16,.bool g)]<|qx h (λc37 h=>?_) (λc37 h=>?_)
  ·refine o0 16 c37<|eH 2 [1] [(17,.map a),(18,vu i)] ?_
   obtain⟨s,rfl,u,cl_3,ks_3,q39,q40,f,e46,hc⟩:=h
   have h:=hc
   refine zd 19 (jR 149 (.map (some s)) (vu i) false) (vi f) (λw hw=>(iB (kk:=(aY .u64)) (z:=vi 0) Ed underlying28 (λ_=>by kernel_rfl) (by rw[hw];exact q39) q40 false).trans (by simp only[if_true,Dj,Df,e46])) [17,18]<|eT 2 [16,19] [(21,.bool (f==0))] ?_
   revert h;refine Bo (λc42 h=>?_) (λc42 h=>?_)
   ·exact aJ 21 (zK c42)<|ar 9<|kb 1 [4] [vi 18] hQ h
   refine aK 21 (zJ c42)<|zp<|aA<|aC<|ge<|ar 10<|va 1 [(22,vu i)]<|zo 23 (λe=>[(23,.bool e)]) h λe H9 h=>u5 1 [(24,.bool (!e))]<|qx h (λc44 h=>?_) (λc44 h=>?_)
   ·exact aK 24 (CJ Bool.not (c44))<|nc<|ar 12<|kb 1 [4] [vi 0] hQ h
   exact aJ 24 (CJ Bool.not (zZ c44))<|ar 11<|kb 1 [4] [vi 1] hQ h
  refine o0 16 (zZ c37)<|eT 5 [1,16] [(21,VF)]<|yL 21<|zp<|aA<|aC<|ge<|ar 10<|va 1 [(22,vu i)]<|zo 23 (λd=>[(23,.bool d)]) h λd y h=>u5 1 [(24,.bool (!d))]<|qx h (λc48 h=>?_) (λc48 h=>?_)
  ·exact aK 24 (CJ Bool.not (c48))<|nc<|ar 12<|kb 1 [4] [vi 0] hQ h
  exact aJ 24 (CJ Bool.not (zZ c48))<|ar 11<|kb 1 [4] [vi 1] hQ h
 refine aK 10 (zJ c35)<|zp<|aA<|aC<|ge<|ar 10<|va 1 [(22,vu i)]<|zo 23 (λb=>[(23,.bool b)]) h λb ac h=>u5 1 [(24,.bool (!b))]<|qx h (λc50 h=>?_) (λc50 h=>?_)
 ·exact aK 24 (CJ Bool.not (c50))<|nc<|ar 12<|kb 1 [4] [vi 0] hQ h
 exact aJ 24 (CJ Bool.not (zZ c50))<|ar 11<|kb 1 [4] [vi 1] hQ h
namespace iJ
def K0:=EP f119
def K2:=cb K0
def K4:=cb K2
def K6:=cb K4
def Ab:=cb K6
def Bs:=ca Ab
def An:=cb Bs
def Ar:=ca An
def Al:=ca Ar
end iJ
def iJ.pt(hv m:zW)(n o:Nat)(H:zV)(R:zv):=
 aW.C m n o H (λv H1=> ∃xB xN xC,v=vs xB xN xC/\
 eU hv (
 R (vs xB xN xC) H1) (λs=>
 ∃y j aa,hat H1 (s.add 1)=some (vs y j aa)/\
 bH 1 28 8 [vu 0] xB xN xC y j H1 (λap z H2=>
 ∃p d e,hat H2 (s.add 2)=some (vs p d e)/\
 ∃(ae:zW->Nat->Nat->zw) (m21:zW->Nat->Nat->Int->zV->Nat),ae ap (xN+j) z 0 H2/\ ∀lB lN lC s24 H3,ae lB lN lC s24 H3->
 if s24< (d:Int)then(
 ∃g,p=some g/\
 yZ s24 d/\
 ∃q f,aL H3 (g.add (Int.toNat s24*2)) 0 [vu q,vu f]/\
 ∀b H4,b=H3.size->H4=H3.push (.cells #[vu 0,vu 0] 36)->
 (aH H4 (ad b) 0 2)/\ ∀H5,H5=aP H4 (ad b) [vu q,vu f] 0->
 ∃x,hat H5 (ad b)=some (vu x)/\
 ∃ab,hat H5 ((ad b).add 1)=some (vu ab)/\
 ∀ac H6,ac=H5.size->H6=H5.push (.cells #[vu x,vu ab] 28)->
 bH 1 28 8 [vu 0] lB lN lC (some (ad ac)) 2 H6 (λu r H7=>
 (ae u (lN+2) r (zY (s24+1)) H7/\m21 u (lN+2) r (zY (s24+1)) H7<m21 lB lN lC s24 H3)))
 else
 R (vs lB lN lC) H3)))
theorem iJ.link{n o:Nat}(h:pt d j n o H R):C d j n o H R:=by
 refine sa K0 37 func119 ?_
 intro w0 Q hQ
 unfold pt zY at h
 refine nx [(0,vp d),(1,vs j n o)]<|ar 0<|eT 1 [] []<|ar 1<|eH 1 [1] [(8,vs j n o)]<|zO 9 [8] h λxB xN xC H1 h=>eT 1 [9] [(5,vs xB xN xC)]<|ge<|ar 2<|eH 1 [] [(10,vp d)] ?_
 rcases d with _ | s
 ·rw[CP]at h
  exact eT 1 [0,10] [(0,vp none),(11,VT)]<|wc 11<|ar 3<|kb 2 [4] [vs xB xN xC] hQ h
 rw[CK]at h
 refine eT 1 [0,10] [(0,Vq s),(11,VF)]<|yL 11<|nc<|ar 4<|eH 4 [5,11] [(13,vs xB xN xC),(16,Vq (s.add 1))] ?_
 obtain⟨y,hv,aa,q1,h⟩:=h
 refine hH 17 32 q1 [16]<|zi (some 18) (cF #[32,32] 32 #[vs xB xN xC,vs y hv aa]) _ (λ_=>by kernel_rfl) (bJ (T:=28) (sz:=1) (bytes:=8) (zero:=(vu 0:Value)) CO CO rfl (show prog.info? 28=some t28 from by kernel_rfl) (by kernel_rfl) (by kernel_rfl) (by decide) (by kernel_rfl) (by first | exact h | (simpa only[Value.cells,C9]using h))) ?_;clear h
 rintro _ H2 ⟨ap,z,rfl,h⟩
 refine kc [13,17] [(18,vs ap (xN+hv) z)]<|eT 1 [18] [(5,vs ap (xN+hv) z)]<|ge<|ar 5<|eH 3 [0] [(21,Vq (s.add 2))]<|have⟨p,m,e,q2,h⟩:=h;hH 22 31 q2 [21]<|eT 2 [] [(23,vi m),(24,vi 0)]<|p0 0<|have⟨ae,m21,i3,i4⟩:=h;bL (x:=Al) (σ:=zW×Nat×Nat×Int) (λs_=> [(5,vs s_.1 s_.2.1 s_.2.2.1),(22,vs p m e),(23,vi m),(24,vi s_.2.2.2)]) (λs_ H=>ae s_.1 s_.2.1 s_.2.2.1 s_.2.2.2 H) (λs_ H=>m21 s_.1 s_.2.1 s_.2.2.1 s_.2.2.2 H) ((ap,(xN+hv),z,0):zW×Nat×Nat×Int) (by kernel_rfl) i3 sk ?_
 rintro⟨lB,lN,lC,s24⟩ H3 i5
 have h:=i4 lB lN lC s24 H3 i5
 refine nx [(5,vs lB lN lC),(22,vs p m e),(23,vi m),(24,vi s24)]<|ar 6<|eT 1 [] [(25,.bool (decide (s24< (m:Int))))]<|ge<|qx h (λc6 h=>?_) (λc6 h=>?_)
 ·refine aJ 25 (zX c6)<|nc<|ge<|p0 1<|ar 7<|yS [25] [] ?_
  obtain⟨g,rfl,q8,ha⟩:=h
  refine yI (some 26) 31 36 2 g m e .i64 s24 D1 q8.1 q8.2 [22] [(22,vs (some g) m e),(26,Vq (g.add (Int.toNat s24*2)))]<|have⟨q,f,q9,h⟩:=ha;zN 27 36 q9 [26]<|t1 (some 7) (λb=>vp (pa b)) (.cells #[vu 0,vu 0] 36)<|λb H4 e10 e11=>have h:=h b H4 e10 e11;kc [] [(7,vp (pa b))]<|have⟨q13,h⟩:=h;fN 36 [vu q,vu f] q13<|λH5 e12=>have h:=h H5 e12;kc [27] []<|yH<|oo 8<|eH 2 [5] [(28,vs lB lN lC),(29,vp (pa b))]<|have⟨x,q14,h⟩:=h;hH 30 28 q14 [29]<|eH 1 [7] [(31,Vq ((ad b).add 1))]<|have⟨ab,q15,h⟩:=h;hH 32 28 q15 [31]<|t1 (some 33) (λb=>vs (pa b) 2 2) (.cells #[vu x,vu ab] 28) ?_
  intro ac H6 e16 e17
  replace h:=h ac H6 e16 e17
  refine kc [30,32] [(33,vs (pa ac) 2 2)]<|zi (some 34) (cF #[32,32] 32 #[vs lB lN lC,vs (pa ac) 2 2]) _ (λ_=>by kernel_rfl) (bJ (T:=28) (sz:=1) (bytes:=8) (zero:=(vu 0:Value)) CO CO rfl (show prog.info? 28=some t28 from by kernel_rfl) (by kernel_rfl) (by kernel_rfl) (by decide) (by kernel_rfl) (by first | exact h | (simpa only[Value.cells,C9]using h))) ?_;clear h
  rintro _ H7 ⟨u,r,rfl,h⟩
  exact kc [28,33] [(34,vs u (lN+2) r)]<|eH 1 [34] [(5,vs u (lN+2) r)]<|zq<|aA<|aC<|oo 9<|eT 2 [24] [(24,vi (zY (s24+1)))]<|aR ((u,(lN+2),r,(zY (s24+1))):zW×Nat×Nat×Int) sk h
 exact aK 25 (zQ c6)<|zk 0<|aB<|aB<|aN<|aC<|ar 10<|kb 2 [4] [vs lB lN lC] hQ h
namespace jq
def K0:=EP f120
def K2:=cb K0
def K4:=cb K2
def zy:=cb K4
def Aq:=ca zy
def Ay:=cb Aq
def Aa:=ca Ay
def An:=ca Aa
def Al:=cb An
def Au:=cb Al
def AM:=ca Au
def Aw:=ca AM
def Av:=cb Aw
def Ae:=cb Av
def Af:=cb Ae
def Bv:=ca Af
def AV:=ca Bv
end jq
def jq.pt(hv:zW)(H:zV)(R:zv):=
 iV.C hv H (λv H1=> ∃x,v=.bool x/\
 if x=true then(
 R (.tuple #[vi 0,vi 0]) H1)
 else
 ∃e,hv=some e/\
 ∃ay,hat H1 e=some (vp ay)/\
 fF.C ay H1 (λbf H2=> ∃m,bf=vp m/\
 ∃a4,hat H2 e=some (vp a4)/\
 ∃a7,a4=some a7/\
 ∃a2,hat H2 a7=some (vp a2)/\
 ∃a5,a2=some a5/\
 ∃az,hat H2 a5=some (vp az)/\
 cH.C az none 0 0 H2 (λbg H3=> ∃xB xN xC,bg=vs xB xN xC/\
 ∃(a8:zw) (m19:Int->zV->Nat),a8 0 H3/\ ∀f H4,a8 f H4->
 if f< (xN:Int)then(
 ∃j,xB=some j/\
 yZ f xN/\
 ∃g,hat H4 (j.add (Int.toNat f*1))=some (vi g)/\
 ∃a6,hat H4 e=some (vp a6)/\
 ∃a9,a6=some a9/\
 ∃a1,hat H4 a9=some (vp a1)/\
 ∃a3,a1=some a3/\
 ∃ap,hat H4 a3=some (vp ap)/\
 bB.C ap g H4 (λbc H5=> ∃al aj aq ae af ab ac rb,bc=.tuple #[.agg #[vi al,vi aj,vi aq,vi ae,vi af,vi ab,vi ac],.bool rb]/\
 ∀b H6,b=H5.size->H6=H5.push (.cells #[vi 0,vi 0,vi 0,vi 0,vi 0,vi 0,vi 0] 108)->
 (aH H6 (ad b) 0 7)/\ ∀H7,H7=aP H6 (ad b) [vi al,vi aj,vi aq,vi ae,vi af,vi ab,vi ac] 0->
 ∃aa u y s,aL H7 ((ad b).add 3) 0 [vi aa,vi u,vi y,vi s]/\
 ∃(a0:zw) (m36:Int->zV->Nat),a0 0 H7/\ ∀d H8,a0 d H8->
 if d<4 then(
 ∃z,((0<=d/\d< (4:Int))/\(#[vi aa,vi u,vi y,vi s]:Array Value)[Int.toNat d]?=some (vi z))/\
 dL.C m g d H8 (λbd H9=> ∃ba,bd=vi ba/\
 ∃ai,m=some ai/\
 ∃av,hat H9 ai=some (vp av)/\
 ∃ax,av=some ax/\
 ∃ao,hat H9 ax=some (vp ao)/\
 bB.C ao g H9 (λbe bb=> ∃ah ag am p q o r au,be=.tuple #[.agg #[vi ah,vi ag,vi am,vi p,vi q,vi o,vi r],.bool au]/\
 ∀ak H11,ak=bb.size->H11=bb.push (.cells #[vi 0,vi 0,vi 0,vi 0,vi 0,vi 0,vi 0] 108)->
 (aH H11 (ad ak) 0 7)/\ ∀aw,aw=aP H11 (ad ak) [vi ah,vi ag,vi am,vi p,vi q,vi o,vi r] 0->
 yZ d 4/\
 ∃an,hat aw (((ad ak).add 3).add (Int.toNat d*1))=some (vi an)/\
 if z>an then(
 R (.tuple #[vi (zY ((zY (g*64))+(zY (d*16)))),vi 4]) aw)
 else
 (a0 (zY (d+1)) aw/\m36 (zY (d+1)) aw<m36 d H8))))
 else
 (a8 (zY (f+1)) H8/\m19 (zY (f+1)) H8<m19 f H4)))
 else
 R (.tuple #[vi 0,vi 0]) H4)))
theorem jq.link(h:pt d H R):C d H R:=by
 refine sa K0 86 func120 ?_
 intro w0 Q hQ
 unfold pt zY at h
 refine nx [(0,vp d)]<|ar 0<|eT 2 [] []<|ge<|ar 1<|eH 1 [] [(13,vp d)]<|sv 14 [13] h λx H1 h=>yH<|qx h (λc1 h=>?_) (λc1 h=>?_)
 ·exact aJ 14 c1<|ar 2<|kb 2 [2,3] [vi 0,vi 0] hQ h
 refine aK 14 (zZ c1)<|nc<|ar 3<|eH 1 [14] [(15,vp d)] ?_
 obtain⟨e,rfl,ha⟩:=h
 refine va 2 [(0,Vq e),(17,Vq e)]<|have⟨ay,q3,h⟩:=ha;hH 18 49 q3 [17]<|sv 19 [18] h λm H2 h=>eT 1 [19] [(4,vp m)]<|ge<|ar 4<|eH 3 [] [(22,Vq e)]<|have⟨a4,q4,h⟩:=h;hH 23 49 q4 [22] ?_
 obtain⟨a7,rfl,hb⟩:=h
 refine eH 2 [23] [(25,Vq a7)]<|have⟨a2,q5,h⟩:=hb;hH 26 52 q5 [25] ?_
 obtain⟨a5,rfl,hc⟩:=h
 refine eH 2 [26] [(28,Vq a5)]<|have⟨az,q6,h⟩:=hc;hH 29 78 q6 [28]<|zO 30 [29] h λxB xN xC H3 h=>eT 2 [] [(31,vi xN),(32,vi 0)]<|p0 0<|have⟨a8,m19,i7,i8⟩:=h;bL (x:=An) (σ:=Int) (λs_=> [(0,Vq e),(4,vp m),(30,vs xB xN xC),(31,vi xN),(32,vi s_)]) (λs_ H=>a8 s_ H) (λs_ H=>m19 s_ H) (0:Int) (by kernel_rfl) i7 sk ?_
 rintro f H4 i9
 have h:=i8 f H4 i9
 refine nx [(0,Vq e),(4,vp m),(30,vs xB xN xC),(31,vi xN),(32,vi f)]<|ar 5<|eT 1 [] [(33,.bool (decide (f< (xN:Int))))]<|ge<|qx h (λc10 h=>?_) (λc10 h=>?_)
 ·refine aJ 33 (zX c10)<|nc<|ge<|p0 1<|ar 6<|yS [33] [] ?_
  obtain⟨j,rfl,q12,hd⟩:=h
  refine yI (some 34) 75 3 1 j xN xC .i64 f C3 q12.1 q12.2 [30] [(30,vs (some j) xN xC),(34,Vq (j.add (Int.toNat f*1)))]<|have⟨g,q13,h⟩:=hd;hH 35 3 q13 [34]<|eT 1 [35] [(6,vi g)]<|ar 7<|eH 3 [] [(39,Vq e)]<|have⟨a6,q14,h⟩:=h;hH 40 49 q14 [39] ?_
  obtain⟨a9,rfl,he⟩:=h
  refine eH 2 [40] [(42,Vq a9)]<|have⟨a1,q15,h⟩:=he;hH 43 52 q15 [42] ?_
  obtain⟨a3,rfl,hf⟩:=h
  refine eH 2 [43] [(45,Vq a3)]<|have⟨ap,q16,h⟩:=hf;hH 46 78 q16 [45]<|eH 1 [] [(47,vi g)]<|zU 48 [46,47] h λal aj aq ae af ab ac rb H5 h=>eH 3 [48] [(49,.agg #[vi al,vi aj,vi aq,vi ae,vi af,vi ab,vi ac]),(50,.bool rb)]<|t1 (some 7) (λb=>vp (pa b)) (.cells #[vi 0,vi 0,vi 0,vi 0,vi 0,vi 0,vi 0] 108)<|λb H6 e17 e18=>have h:=h b H6 e17 e18;kc [] [(7,vp (pa b))]<|have⟨q20,h⟩:=h;fN 108 [vi al,vi aj,vi aq,vi ae,vi af,vi ab,vi ac] q20<|λH7 e19=>have h:=h H7 e19;kc [49] []<|eT 1 [50] []<|ar 8<|eH 1 [7] [(51,Vq ((ad b).add 3))]<|have⟨aa,u,y,s,q21,h⟩:=h;zN 52 79 q21 [51]<|eT 1 [] [(53,vi 0)]<|p0 2<|have⟨a0,m36,i22,i23⟩:=h;bL (x:=AV) (σ:=Int) (λs_=> [(0,Vq e),(4,vp m),(6,vi g),(30,vs (some j) xN xC),(31,vi xN),(32,vi f),(52,.agg #[vi aa,vi u,vi y,vi s]),(53,vi s_)]) (λs_ H=>a0 s_ H) (λs_ H=>m36 s_ H) (0:Int) (by kernel_rfl) i22 sk ?_
  rintro hv H8 i24
  have h:=i23 hv H8 i24
  refine nx [(0,Vq e),(4,vp m),(6,vi g),(30,vs (some j) xN xC),(31,vi xN),(32,vi f),(52,.agg #[vi aa,vi u,vi y,vi s]),(53,vi hv)]<|ar 9<|eT 1 [] [(54,.bool (decide (hv<4)))]<|ge<|qx h (λc25 h=>?_) (λc25 h=>?_)
  ·refine aJ 54 (zX c25)<|nc<|ge<|p0 3<|ar 10<|eH 1 [54] [(55,vi hv)] ?_
   obtain⟨z,q27,h⟩:=h
   refine zd 56 (mL 79 (.agg #[vi aa,vi u,vi y,vi s]) (vi hv)) (vi z) (λw _=>kf (P:=prog) (t:=79) (elem:=3) (n:=4) DN (λ_=>by kernel_rfl) (λ_=>by kernel_rfl) q27.1.1 q27.1.2 q27.2 w) []<|eT 2 [55,56] [(9,vi hv),(10,vi z)]<|ar 11<|eH 3 [] [(57,vp m),(58,vi g),(59,vi hv)]<|zC (some 60) h ?_;clear h
   rintro bd H9 ⟨ba,rfl,h⟩
   refine kc [57,58,59] []<|yH<|ar 12<|eH 1 [] [(62,vp m)] ?_
   obtain⟨ai,rfl,hg⟩:=h
   refine eH 2 [4,62] [(4,Vq ai),(64,Vq ai)]<|have⟨av,q28,h⟩:=hg;hH 65 52 q28 [64] ?_
   obtain⟨ax,rfl,hh⟩:=h
   refine eH 2 [65] [(67,Vq ax)]<|have⟨ao,q29,h⟩:=hh;hH 68 78 q29 [67]<|eH 1 [] [(69,vi g)]<|zU 70 [68,69] h λah ag am p q o r au bb h=>eH 3 [70] [(71,.agg #[vi ah,vi ag,vi am,vi p,vi q,vi o,vi r]),(72,.bool au)]<|t1 (some 11) (λb=>vp (pa b)) (.cells #[vi 0,vi 0,vi 0,vi 0,vi 0,vi 0,vi 0] 108)<|λak H11 e30 e31=>have h:=h ak H11 e30 e31;kc [] [(11,vp (pa ak))]<|have⟨q33,h⟩:=h;fN 108 [vi ah,vi ag,vi am,vi p,vi q,vi o,vi r] q33<|λaw e32=>have h:=h aw e32;kc [71] []<|eT 1 [72] []<|ar 13<|eH 3 [10,11] [(73,vi z),(74,vi hv),(75,Vq ((ad ak).add 3))]<|have⟨q34,h⟩:=h;zd 76 (bE 79 (Vq ((ad ak).add 3)) (vi hv)) (Vq (((ad ak).add 3).add (Int.toNat hv*1))) (λw _=>bQ (P:=prog) (t:=79) (elem:=3) (sz:=1) (n:=4) (a:=((ad ak).add 3)) (k:=.i64) (i:=hv) DN (λ_=>by kernel_rfl) q34.1 q34.2 w) [74,75]<|have⟨an,q35,h⟩:=h;hH 77 3 q35 [76]<|eT 1 [73,77] [(78,.bool (decide (z>an)))]<|qx h (λc36 h=>?_) (λc36 h=>?_)
   ·exact aJ 78 (zX c36)<|ar 14<|kb 7 [2,3] [vi (zY ((zY (g*64))+(zY (hv*16)))),vi 4] hQ h
   exact aK 78 (zQ c36)<|zp<|aA<|aC<|oo 15<|eT 2 [9,53,78] [(53,vi (zY (hv+1)))]<|aR ((zY (hv+1)):Int) sk h
  exact aK 54 (zQ c25)<|zk 2<|aB<|aB<|aN<|aA<|aC<|oo 16<|eT 2 [6,32,52,53,54] [(32,vi (zY (f+1)))]<|aR ((zY (f+1)):Int) sk h
 exact aK 33 (zQ c10)<|zk 0<|aB<|aB<|aN<|aC<|ar 17<|kb 2 [2,3] [vi 0,vi 0] hQ h
def aV.K0:=EP f121
def aV.pt(nv:zW)(wv d:Int)(H:zV)(R:zv):=
 if d=0 then(
 ∃e,nv=some e/\
 ∃xB xN xC,hat H (e.add 3)=some (vs xB xN xC)/\
 ∀b H1,b=H.size->H1=H.push (.cells #[vu wv] 28)->
 bH 1 28 8 [vu 0] xB xN xC (some (ad b)) 1 H1 (λap x H2=>
 (aH H2 (e.add 3) 0 1)/\ ∀H3,H3=aP H2 (e.add 3) [vs ap (xN+1) x] 0->
 ∃n f r,hat H3 (e.add 4)=some (vs n f r)/\
 ∀y H4,y=H3.size->H4=H3.push (.cells #[vi d] 3)->
 bH 1 3 8 [vi 0] n f r (some (ad y)) 1 H4 (λv m H5=>
 (aH H5 (e.add 4) 0 1)/\ ∀H6,H6=aP H5 (e.add 4) [vs v (f+1) m] 0->
 R (.tuple #[]) H6)))
 else
 ∃a,nv=some a/\
 ∃o i p,hat H (a.add 3)=some (vs o i p)/\
 ∀z H7,z=H.size->H7=H.push (.cells #[vu 0] 28)->
 bH 1 28 8 [vu 0] o i p (some (ad z)) 1 H7 (λt j H8=>
 (aH H8 (a.add 3) 0 1)/\ ∀H9,H9=aP H8 (a.add 3) [vs t (i+1) j] 0->
 ∃q g s,hat H9 (a.add 4)=some (vs q g s)/\
 ∀aa H10,aa=H9.size->H10=H9.push (.cells #[vi d] 3)->
 bH 1 3 8 [vi 0] q g s (some (ad aa)) 1 H10 (λu k ac=>
 (aH ac (a.add 4) 0 1)/\ ∀ab,ab=aP ac (a.add 4) [vs u (g+1) k] 0->
 R (.tuple #[]) ab))
theorem aV.link{wv:Int}(h:pt d i wv H R):C d i wv H R:=by
 refine sa K0 28 func121 ?_
 intro w0 Q hQ
 unfold pt at h
 refine nx [(0,vp d),(1,vu i),(2,vi wv)]<|ge<|ar 0<|eT 2 [] [(7,.bool (wv !=0))]<|qx h (λc1 h=>?_) (λc1 h=>?_)
 ·refine aK 7 (CX.mpr c1)<|nc<|ar 2<|eH 2 [7] [(8,vp d),(9,vp d)] ?_
  obtain⟨e,rfl,ha⟩:=h
  refine eH 2 [0,8,9] [(0,Vq e),(8,Vq e),(11,Vq (e.add 3))]<|have⟨xB,xN,xC,q3,h⟩:=ha;hH 12 32 q3 [11]<|eH 1 [1] [(13,vu i)]<|t1 (some 14) (λb=>vs (pa b) 1 1) (.cells #[vu i] 28) ?_
  intro b H1 e4 e5
  replace h:=h b H1 e4 e5
  refine kc [13] [(14,vs (pa b) 1 1)]<|zi (some 15) (cF #[32,32] 32 #[vs xB xN xC,vs (pa b) 1 1]) _ (λ_=>by kernel_rfl) (bJ (T:=28) (sz:=1) (bytes:=8) (zero:=(vu 0:Value)) CO CO rfl (show prog.info? 28=some t28 from by kernel_rfl) (by kernel_rfl) (by kernel_rfl) (by decide) (by kernel_rfl) (by first | exact h | (simpa only[Value.cells,C9]using h))) ?_;clear h
  rintro _ H2 ⟨ap,x,rfl,h⟩
  refine kc [12,14] [(15,vs ap (xN+1) x)]<|eH 2 [8] [(17,Vq (e.add 3))]<|have⟨q7,h⟩:=h;eQ 32 (vs ap (xN+1) x) q7<|λH3 e6=>have h:=h H3 e6;kc [15,17] []<|yH<|oo 3<|eH 4 [0] [(18,Vq e),(21,Vq (e.add 4))]<|have⟨n,f,r,q8,h⟩:=h;hH 22 75 q8 [21]<|eH 1 [2] [(23,vi wv)]<|t1 (some 24) (λb=>vs (pa b) 1 1) (.cells #[vi wv] 3) ?_
  intro y H4 e9 e10
  replace h:=h y H4 e9 e10
  refine kc [23] [(24,vs (pa y) 1 1)]<|zi (some 25) (cF #[75,75] 75 #[vs n f r,vs (pa y) 1 1]) _ (λ_=>by kernel_rfl) (bJ (T:=3) (sz:=1) (bytes:=8) (zero:=(vi 0:Value)) C3 C3 rfl (show prog.info? 3=some t3 from by kernel_rfl) (by kernel_rfl) (by kernel_rfl) (by decide) (by kernel_rfl) (by first | exact h | (simpa only[Value.cells,C9]using h))) ?_;clear h
  rintro _ H5 ⟨v,m,rfl,h⟩
  refine kc [22,24] [(25,vs v (f+1) m)]<|eH 2 [18] [(27,Vq (e.add 4))]<|have⟨q12,h⟩:=h;eQ 75 (vs v (f+1) m) q12<|λH6 e11=>have h:=h H6 e11;⟨[],pk,?_⟩
  exact zq<|gH (fn:=f121) [] hQ (show bV _ _ _ [] _ from .nil) h
 refine aJ 7 (CY.mpr c1)<|oo 1<|eT 1 [1,7] [(1,vu 0)]<|ar 2<|eH 2 [] [(8,vp d),(9,vp d)] ?_
 obtain⟨a,rfl,hb⟩:=h
 refine eH 2 [0,8,9] [(0,Vq a),(8,Vq a),(11,Vq (a.add 3))]<|have⟨o,nv,p,q13,h⟩:=hb;hH 12 32 q13 [11]<|eH 1 [1] [(13,vu 0)]<|t1 (some 14) (λb=>vs (pa b) 1 1) (.cells #[vu 0] 28) ?_
 intro z H7 e14 e15
 replace h:=h z H7 e14 e15
 refine kc [13] [(14,vs (pa z) 1 1)]<|zi (some 15) (cF #[32,32] 32 #[vs o nv p,vs (pa z) 1 1]) _ (λ_=>by kernel_rfl) (bJ (T:=28) (sz:=1) (bytes:=8) (zero:=(vu 0:Value)) CO CO rfl (show prog.info? 28=some t28 from by kernel_rfl) (by kernel_rfl) (by kernel_rfl) (by decide) (by kernel_rfl) (by first | exact h | (simpa only[Value.cells,C9]using h))) ?_;clear h
 rintro _ H8 ⟨t,j,rfl,h⟩
 refine kc [12,14] [(15,vs t (nv+1) j)]<|eH 2 [8] [(17,Vq (a.add 3))]<|have⟨q17,h⟩:=h;eQ 32 (vs t (nv+1) j) q17<|λH9 e16=>have h:=h H9 e16;kc [15,17] []<|yH<|oo 3<|eH 4 [0] [(18,Vq a),(21,Vq (a.add 4))]<|have⟨q,g,s,q18,h⟩:=h;hH 22 75 q18 [21]<|eH 1 [2] [(23,vi wv)]<|t1 (some 24) (λb=>vs (pa b) 1 1) (.cells #[vi wv] 3) ?_
 intro aa H10 e19 e20
 replace h:=h aa H10 e19 e20
 refine kc [23] [(24,vs (pa aa) 1 1)]<|zi (some 25) (cF #[75,75] 75 #[vs q g s,vs (pa aa) 1 1]) _ (λ_=>by kernel_rfl) (bJ (T:=3) (sz:=1) (bytes:=8) (zero:=(vi 0:Value)) C3 C3 rfl (show prog.info? 3=some t3 from by kernel_rfl) (by kernel_rfl) (by kernel_rfl) (by decide) (by kernel_rfl) (by first | exact h | (simpa only[Value.cells,C9]using h))) ?_;clear h
 rintro _ ac ⟨u,k,rfl,h⟩
 refine kc [22,24] [(25,vs u (g+1) k)]<|eH 2 [18] [(27,Vq (a.add 4))]<|have⟨q22,h⟩:=h;eQ 75 (vs u (g+1) k) q22<|λab e21=>have h:=h ab e21;⟨[],pk,?_⟩
 exact zq<|gH (fn:=f121) [] hQ (show bV _ _ _ [] _ from .nil) h
def jr.K0:=EP f123
def jr.pt(wv:Int)(r f a:zW)(H:zV)(R:zv):=
 ∃g,r=some g/\
 ∃x,hat H g=some (vp x)/\
 iV.C x H (λv H1=> ∃j,v=.bool j/\
 if j=true then(
 R (.tuple #[]) H1)
 else
 ∃q,hat H1 g=some (vp q)/\
 bO.C q wv H1 (λac H2=> ∃o,ac=vi o/\
 if o>0 then(
 ∃d,f=some d/\
 ∃s,hat H2 d=some (.map s)/\
 ∃mr,s=some mr/\
 ∃es cl ks,H2[mr]?=some (.map es cl)/\vb (aY .u64) es.toList ks/\
 ∃m,(yG ks wv).getD (vi 0)=vi m/\
 if m=0 then(
 ∃e,a=some e/\
 ∃xB xN xC,hat H2 e=some (vs xB xN xC)/\
 ∀b H3,b=H2.size->H3=H2.push (.cells #[vu wv] 28)->
 bH 1 28 8 [vu 0] xB xN xC (some (ad b)) 1 H3 (λap t H4=>
 (aH H4 e 0 1)/\ ∀H5,H5=aP H4 e [vs ap (xN+1) t] 0->
 ∃p,hat H5 d=some (.map p)/\
 ∃u i y,hat H5 e=some (vs u i y)/\
 ∃n,p=some n/\
 ∃ab cl_2 ks_2,H5[n]?=some (.map ab cl_2)/\vb (aY .u64) ab.toList ks_2/\
 ∀aa cl_3 H6,H6=aM H5 n (.map aa cl_3)->vb (aY .u64) aa.toList (yM ks_2 wv (vi (i:Int)))->
 R (.tuple #[]) H6))
 else
 R (.tuple #[]) H2)
 else
 R (.tuple #[]) H2))
theorem jr.link{a:zW}(h:pt i d j a H R):C i d j a H R:=by
 refine sa K0 28 func123 ?_
 intro w0 Q hQ
 unfold pt at h
 refine nx [(0,vu i),(1,vp d),(2,vp j),(3,vp a)]<|ar 0 ?_
 obtain⟨g,rfl,x,q1,ha⟩:=h
 refine As (some 5) 23 q1 [1] [(1,Vq g),(5,vp x)]<|sv 6 [5] ha λwv H1 h=>eH 2 [6] [(8,.bool (!wv))]<|qx h (λc2 h=>?_) (λc2 h=>?_)
 ·have b3:(!wv)=false:=CJ Bool.not (c2)
  have b32:wv=true:=c2
  refine o0 8 (b:=(!wv)) (v:=false) (by simp only[b3,b32,Da,C5]) ?_
  clear b3 b32
  exact eT 11 [1,8] [(19,VF)]<|yL 19<|zp<|gH (fn:=f123) [] hQ (show bV _ _ _ [] _ from .nil) h
 have b3:(!wv)=true:=CJ Bool.not (zZ c2)
 have b32:wv=false:=zZ c2
 refine o0 8 (b:=(!wv)) (v:=true) (by simp only[b3,b32,Da,C5]) ?_
 clear b3 b32
 refine have⟨q,q4,h⟩:=h;hH 9 23 q4 [1]<|eH 1 [] [(10,vu i)]<|sv 11 [9,10] h λo H2 h=>eH 3 [8,11] [(14,.bool (decide (o>0)))]<|qx h (λc5 h=>?_) (λc5 h=>?_)
 ·refine o0 14 (zX c5) ?_
  obtain⟨f,rfl,s,q7,hb⟩:=h
  refine As (some 15) 149 q7 [2] [(2,Vq f),(15,.map s)]<|eH 1 [] [(16,vu i)] ?_
  obtain⟨mr,rfl,es,cl,ks,q8,q9,m,e25,hc⟩:=hb
  have h:=hc
  refine zd 17 (jR 149 (.map (some mr)) (vu i) false) (vi m) (λw hw=>(iB (kk:=(aY .u64)) (z:=vi 0) Ed underlying28 (λ_=>by kernel_rfl) (by rw[hw];exact q8) q9 false).trans (by simp only[if_true,Dj,Df,e25])) [15,16]<|eT 2 [14,17] [(19,.bool (m==0))] ?_
  revert h;refine Bo (λc11 h=>?_) (λc11 h=>?_)
  ·refine aJ 19 (zK c11)<|ar 1<|yS [19] [] ?_
   obtain⟨e,rfl,xB,xN,xC,q13,hd⟩:=h
   have h:=hd
   refine As (some 20) 32 q13 [3] [(3,Vq e),(20,vs xB xN xC)]<|eH 1 [] [(21,vu i)]<|t1 (some 22) (λb=>vs (pa b) 1 1) (.cells #[vu i] 28) ?_
   intro b H3 e14 e15
   replace h:=h b H3 e14 e15
   refine kc [21] [(22,vs (pa b) 1 1)]<|zi (some 23) (cF #[32,32] 32 #[vs xB xN xC,vs (pa b) 1 1]) _ (λ_=>by kernel_rfl) (bJ (T:=28) (sz:=1) (bytes:=8) (zero:=(vu 0:Value)) CO CO rfl (show prog.info? 28=some t28 from by kernel_rfl) (by kernel_rfl) (by kernel_rfl) (by decide) (by kernel_rfl) (by first | exact h | (simpa only[Value.cells,C9]using h))) ?_;clear h
   rintro _ H4 ⟨ap,t,rfl,h⟩
   refine kc [20,22] [(23,vs ap (xN+1) t)]<|have⟨q17,h⟩:=h;eQ 32 (vs ap (xN+1) t) q17<|λH5 e16=>have h:=h H5 e16;kc [23] []<|yH<|oo 2<|have⟨p,q18,h⟩:=h;hH 24 149 q18 [2]<|eH 1 [0] [(25,vu i)]<|have⟨u,r,y,q19,h⟩:=h;hH 26 32 q19 [3]<|eH 1 [26] [(27,vi r)] ?_
   obtain⟨n,rfl,ab,cl_2,ks_2,q20,q21,he⟩:=h
   refine mK none (m8 149 (.map (some n)) (vu i) (vi r)) (λHz=> ∃es2 cl2,Hz=aM H5 n (.map es2 cl2)/\vb (aY .u64) es2.toList (yM ks_2 i (vi r))) (λ_=>by kernel_rfl) (λw hw=>by obtain⟨es2,cl2,q1,q2⟩:=nz (kk:=(aY .u64)) (P:=prog) (w:=w) (k:=i) (v:=vi r) Ed underlying28 (by rw[hw];exact q20) q21;exact⟨_,q1,⟨rfl,rfl,rfl,CU _⟩,es2,cl2,by rw[<-hw],q2⟩) ?_
   rintro H6 ⟨aa,cl_3,e23,e24⟩
   refine have h:=he aa cl_3 H6 e23 e24;⟨[],pk,?_⟩
   exact zq<|gH (fn:=f123) [] hQ (show bV _ _ _ [] _ from .nil) h
  exact aK 19 (zJ c11)<|zp<|gH (fn:=f123) [] hQ (show bV _ _ _ [] _ from .nil) h
 exact o0 14 (zQ c5)<|eT 5 [14] [(19,VF)]<|yL 19<|zp<|gH (fn:=f123) [] hQ (show bV _ _ _ [] _ from .nil) h
def iV.K0:=EP f124
def iV.pt(hv:zW)(H:zV)(R:zv):=
 eU hv (
 R VT H) (λa=>
 ∃x,hat H a=some (vp x)/\
 eU x (
 R VT H) (λxA=>
 ∃e,hat H a=some (vp e)/\
 ∃i,e=some i/\
 ∃b,hat H i=some (vp b)/\
 eU b (
 R VT H) (λn=>
 ∃f,hat H a=some (vp f)/\
 ∃k,f=some k/\
 ∃j,hat H k=some (vp j)/\
 ∃g,j=some g/\
 ∃d,hat H g=some (vp d)/\
 eU d (
 R VT H) (λm=>
 R VF H))))
theorem iV.link(h:pt d H R):C d H R:=by
 refine sa K0 35 func124 ?_
 intro w0 Q hQ
 unfold pt at h
 refine nx [(0,vp d)]<|ar 0<|eT 1 [] []<|ar 1<|eH 1 [] [(3,vp d)] ?_
 rcases d with _ | a
 ·rw[CP]at h
  exact kb 32 [2] [VT] hQ h
 rw[CK]at h
 refine va 5 [(0,Vq a),(5,VF),(8,Vq a)]<|have⟨x,q1,h⟩:=h;hH 9 49 q1 [8] ?_
 rcases x with _ | xA
 ·rw[CP]at h
  exact kb 26 [2] [VT] hQ h
 rw[CK]at h
 refine eH 6 [5,9] [(12,VF),(15,Vq a)]<|have⟨e,q2,h⟩:=h;hH 16 49 q2 [15] ?_
 obtain⟨i,rfl,ha⟩:=h
 refine eH 2 [16] [(18,Vq i)]<|have⟨b,q3,h⟩:=ha;hH 19 52 q3 [18] ?_
 rcases b with _ | n
 ·rw[CP]at h
  exact kb 16 [2] [VT] hQ h
 rw[CK]at h
 refine va 6 [(22,VF),(25,Vq a)]<|have⟨f,q4,h⟩:=h;hH 26 49 q4 [25] ?_
 obtain⟨k,rfl,hb⟩:=h
 refine eH 2 [26] [(28,Vq k)]<|have⟨j,q5,h⟩:=hb;hH 29 52 q5 [28] ?_
 obtain⟨g,rfl,hc⟩:=h
 refine eH 2 [29] [(31,Vq g)]<|have⟨hv,q6,h⟩:=hc;hH 32 78 q6 [31] ?_
 rcases hv with _ | m
 ·rw[CP]at h
  exact kb 3 [2] [VT] hQ h
 rw[CK]at h
 exact kb 3 [2] [VF] hQ h
namespace fS
def K0:=EP f79
def K2:=cb K0
def K4:=cb K2
def K6:=cb K4
def K7:=ca K6
def K8:=cb K6
def zS:=cb K7
def K11:=ca zS
def zy:=ca K11
def AM:=cb K8
def AH:=ca AM
def Av:=cb AH
def AS:=ca Av
def Ae:=ca AS
def Af:=cb Ae
def AV:=cb Af
def Bm:=ca AV
def Bz:=ca Bm
def AE:=cb Bz
def AG:=ca AE
def Bj:=cb AE
def Bp:=ca Bj
def B5:=cb Bj
def Cn:=cb Bp
def K49:=ca Cn
def B7:=ca K49
def K51:=cb K49
def B4:=ca B5
def Cj:=cb B4
def Ch:=ca Cj
def BA:=ca Ch
def BZ:=ca BA
def BX:=ca BZ
end fS
def fS.pt(hv af:zW)(q y:Nat)(H:zV)(R:zv):=
 ∀b H1,b=H.size->H1=H.push (.cells #[vp hv] 23)->
 ∃x,hat H1 (ad b)=some (vp x)/\
 jt.C x af q y H1 (λv H2=> ∃aj d n rb,v=.tuple #[vs aj d n,.map rb]/\
 ∀m H3,m=H2.size->H3=H2.push (.cells #[.map none] 149)->
 (aH H3 (ad m) 0 1)/\ ∀H4,H4=aP H3 (ad m) [.map rb] 0->
 ∀a1 H5,a1=H4.size->H5=H4.push (.cells #[vi 0,vi 0,vu 0,VN,VN] 147)->
 ∃(gj:zw) (m13:Int->zV->Nat),gj 0 H5/\ ∀ao H6,gj ao H6->
 if ao< (q:Int)then(
 ∃ah,af=some ah/\
 yZ ao q/\
 ∃bl,hat H6 (ah.add (Int.toNat ao*1))=some (vu bl)/\
 ∃f7,hat H6 (ad m)=some (.map f7)/\
 ∃mr,f7=some mr/\
 ∃es cl ks,H6[mr]?=some (.map es cl)/\vb (aY .u64) es.toList ks/\
 ∃gb,(yG ks bl).getD (vi 0)=vi gb/\
 aV.C (some (ad a1)) bl gb H6 (λ_ H7=>
 (gj (zY (ao+1)) H7/\m13 (zY (ao+1)) H7<m13 ao H6)))
 else
 ∃ey dq dp bp bn br ep fd fj,aL H6 (ad a1) 0 [vi ey,vi dq,vu dp,vs bp bn br,vs ep fd fj]/\
 ∀fs H8,fs=H6.size->H8=H6.push (.cells #[vi ey,vi dq,vu dp,vs bp bn br,vs ep fd fj] 147)->
 ∃(c6:zW->Nat->Nat->Int->(List Nat)->zV->Prop) (m32:zW->Nat->Nat->Int->(List Nat)->zV->Nat),c6 (some (ad fs)) 1 1 0 ([]) H8/\ ∀(f:zW) (outN:Nat) (outC:Nat) (s42:Int) (ms:List Nat) (H9:zV),c6 f outN outC s42 ms H9->
 if s42< (d:Int)then(
 ∃j,aj=some j/\
 yZ s42 d/\
 ∃ej,hat H9 (j.add (Int.toNat s42*1))=some (vu ej)/\
 ∀e H10,e=H9.size->H10=H9.push (.cells #[vu 0] 28)->
 (aH H10 (ad e) 0 1)/\ ∀de,de=aP H10 (ad e) [vu ej] 0->
 ∃bz,hat de (ad e)=some (vu bz)/\
 ∃a5,hat de (ad b)=some (vp a5)/\
 ∃a6,hat de (ad e)=some (vu a6)/\
 ∃aw,hat de (ad b)=some (vp aw)/\
 ∃ai,hat de (ad e)=some (vu ai)/\
 (
 cM.C bz de (λjf fq=> ∃ag,jf=vi ag/\aL fq (ad b) 0 [vp a5]/\aL fq (ad e) 0 [vu a6]/\aL fq (ad b) 0 [vp aw]/\aL fq (ad e) 0 [vu ai]/\
 (
 bX.C a5 a6 fq (λjh f3=> ∃ax,jh=vi ax/\aL f3 (ad b) 0 [vp aw]/\aL f3 (ad e) 0 [vu ai]/\
 (
 eI.C aw ai f3 (λjk ir=> ∃b4,jk=vu b4/\
 ∀u H15,u=ir.size->H15=ir.push (.cells #[vi 0,vi 0,vu 0,VN,VN] 147)->
 (aH H15 (ad u) 0 5)/\ ∀f6,f6=aP H15 (ad u) [vi ag,vi ax,vu b4,VN,VN] 0->
 ∃ea,hat f6 (ad b)=some (vp ea)/\
 ∃eo,hat f6 (ad e)=some (vu eo)/\
 bT.C ea eo f6 (λfx f0=>fx=fx/\
 ∀(rc:LoopState->Option Code->Obj) (lp:Nat) (H18:zV),lp=f0.size+1->H18=(f0.push (.deferred (some []))).push (rc .ready none)->
 ∀vY,(∀(al:Int) (x_18:Int) (H19:zV) (vRy:zv),H19[lp]?=some (rc .ready none)->
 (H19[lp]?=some (rc .ready none)/\ ∀fv,fv=aM H19 lp (rc .busy none)->
 ∃e0,hat fv (ad m)=some (.map e0)/\
 ∃gf,e0=some gf/\
 ∃gy cl_2 ks_2,fv[gf]?=some (.map gy cl_2)/\vb (aY .u64) gy.toList ks_2/\
 ∃ae,(yG ks_2 x_18).getD (vi 0)=vi ae/\
 if ae=0 then(
 ∃ex,hat fv (ad e)=some (vu ex)/\
 cM.C ex fv (λjl g6=> ∃dn,jl=vi dn/\
 if dn=2 then(
 ∃er,hat g6 (ad e)=some (vu er)/\
 eY.C er g6 (λjj g5=> ∃dc,jj=vi dc/\
 if al=dc then(
 ∃d0,hat g5 (ad b)=some (vp d0)/\
 bO.C d0 x_18 g5 (λji i5=> ∃c7,ji=vi c7/\
 if c7>0 then(
 aV.C (some (ad u)) x_18 (-1) i5 (λ_ iu=>
 iu[lp]?=some (rc .busy none)/\
 vRy VT (aM iu lp (rc .ready none))))
 else
 aV.C (some (ad u)) x_18 ae i5 (λ_ i9=>
 i9[lp]?=some (rc .busy none)/\
 vRy VT (aM i9 lp (rc .ready none)))))
 else
 aV.C (some (ad u)) x_18 ae g5 (λ_ iy=>
 iy[lp]?=some (rc .busy none)/\
 vRy VT (aM iy lp (rc .ready none)))))
 else
 aV.C (some (ad u)) x_18 ae g6 (λ_ hu=>
 hu[lp]?=some (rc .busy none)/\
 vRy VT (aM hu lp (rc .ready none)))))
 else
 aV.C (some (ad u)) x_18 ae fv (λ_ hj=>
 hj[lp]?=some (rc .busy none)/\
 vRy VT (aM hj lp (rc .ready none))))->
 FC prog vY #[vi al,vu x_18] H19 vRy)->
 FE prog fx #[vY] H18 (λ_ iw=>
 (iw[lp]?=some (rc .ready none)/\ ∀g7,g7=aM iw lp (rc .exhausted none)->
 ∃(gk:zw) (m69:Int->zV->Nat),gk 0 g7/\ ∀i H31,gk i H31->
 ∃xB xN xC,hat H31 ((ad u).add 3)=some (vs xB xN xC)/\
 ∃df,hat H31 (ad b)=some (vp df)/\
 ∃ef,hat H31 (ad e)=some (vu ef)/\
 cO.C df ef H31 (λho el=> ∃b1,ho=vi b1/\aL el ((ad u).add 3) 0 [vs xB xN xC]/\
 if(xN:Int)<b1 then(
 ∃b8,hat el (ad b)=some (vp b8)/\
 ∃c4,hat el (ad e)=some (vu c4)/\
 ∃d5,hat el ((ad u).add 1)=some (vi d5)/\
 dF.C b8 c4 d5 i el (λhl jn=> ∃ra gw,hl=.tuple #[vu ra,vi gw]/\
 aV.C (some (ad u)) ra 0 jn (λ_ h3=>
 (gk (zY (i+1)) h3/\m69 (zY (i+1)) h3<m69 i H31))))
 else
 ∃cx bw bq be ba a8 co cn cm,aL el (ad u) 0 [vi cx,vi bw,vu bq,vs be ba a8,vs co cn cm]/\
 ∀f4 H35,f4=el.size->H35=el.push (.cells #[vi cx,vi bw,vu bq,vs be ba a8,vs co cn cm] 147)->
 bH 5 147 72 [vi 0,vi 0,vu 0,VN,VN] f outN outC (some (ad f4)) 1 H35 (λap fz hz=>
 (c6 ap (outN+1) fz (zY (s42+1)) (f0.size::ms) hz/\m32 ap (outN+1) fz (zY (s42+1)) (f0.size::ms) hz<m32 f outN outC s42 ms H9))))))))/\(
 ∀r H37,r=f3.size->H37=f3.push (.cells #[vi 0,vi 0,vu 0,VN,VN] 147)->aL H37 (ad b) 0 [vp aw]/\aL H37 (ad e) 0 [vu ai]/\
 eI.C aw ai H37 (λht g4=> ∃cd,ht=vu cd/\
 (aH g4 (ad r) 0 5)/\ ∀f5,f5=aP g4 (ad r) [vi ag,vi ax,vu cd,VN,VN] 0->
 ∃dt,hat f5 (ad b)=some (vp dt)/\
 ∃fp,hat f5 (ad e)=some (vu fp)/\
 bT.C dt fp f5 (λd2 f1=>d2=d2/\
 ∀(a4:LoopState->Option Code->Obj) (lp_2:Nat) (H41:zV),lp_2=f1.size+1->H41=(f1.push (.deferred (some []))).push (a4 .ready none)->
 ∀ie,(∀(an:Int) (x_38:Int) (H42:zV) (vRy_2:zv),H42[lp_2]?=some (a4 .ready none)->
 (H42[lp_2]?=some (a4 .ready none)/\ ∀fu,fu=aM H42 lp_2 (a4 .busy none)->
 ∃ff,hat fu (ad m)=some (.map ff)/\
 ∃gi,ff=some gi/\
 ∃gp cl_3 ks_3,fu[gi]?=some (.map gp cl_3)/\vb (aY .u64) gp.toList ks_3/\
 ∃aa,(yG ks_3 x_38).getD (vi 0)=vi aa/\
 if aa=0 then(
 ∃fo,hat fu (ad e)=some (vu fo)/\
 cM.C fo fu (λjb g3=> ∃c9,jb=vi c9/\
 if c9=2 then(
 ∃ez,hat g3 (ad e)=some (vu ez)/\
 eY.C ez g3 (λh5 g0=> ∃da,h5=vi da/\
 if an=da then(
 ∃d7,hat g0 (ad b)=some (vp d7)/\
 bO.C d7 x_38 g0 (λh0 i8=> ∃dd,h0=vi dd/\
 if dd>0 then(
 aV.C (some (ad r)) x_38 (-1) i8 (λ_ ia=>
 ia[lp_2]?=some (a4 .busy none)/\
 vRy_2 VT (aM ia lp_2 (a4 .ready none))))
 else
 aV.C (some (ad r)) x_38 aa i8 (λ_ h2=>
 h2[lp_2]?=some (a4 .busy none)/\
 vRy_2 VT (aM h2 lp_2 (a4 .ready none)))))
 else
 aV.C (some (ad r)) x_38 aa g0 (λ_ iv=>
 iv[lp_2]?=some (a4 .busy none)/\
 vRy_2 VT (aM iv lp_2 (a4 .ready none)))))
 else
 aV.C (some (ad r)) x_38 aa g3 (λ_ ix=>
 ix[lp_2]?=some (a4 .busy none)/\
 vRy_2 VT (aM ix lp_2 (a4 .ready none)))))
 else
 aV.C (some (ad r)) x_38 aa fu (λ_ hg=>
 hg[lp_2]?=some (a4 .busy none)/\
 vRy_2 VT (aM hg lp_2 (a4 .ready none))))->
 FC prog ie #[vi an,vu x_38] H42 vRy_2)->
 FE prog d2 #[ie] H41 (λ_ ib=>
 (ib[lp_2]?=some (a4 .ready none)/\ ∀he,he=aM ib lp_2 (a4 .exhausted none)->
 ∃(bj:zw) (m80:Int->zV->Nat),bj 0 he/\ ∀aq H54,bj aq H54->
 ∃fh ay ev,hat H54 ((ad r).add 3)=some (vs fh ay ev)/\
 ∃c8,hat H54 (ad b)=some (vp c8)/\
 ∃eg,hat H54 (ad e)=some (vu eg)/\
 cO.C c8 eg H54 (λjc ek=> ∃b5,jc=vi b5/\aL ek ((ad r).add 3) 0 [vs fh ay ev]/\
 if(ay:Int)<b5 then(
 ∃b7,hat ek (ad b)=some (vp b7)/\
 ∃c5,hat ek (ad e)=some (vu c5)/\
 ∃dv,hat ek ((ad r).add 1)=some (vi dv)/\
 dF.C b7 c5 dv aq ek (λi6 jm=> ∃dy gx,i6=.tuple #[vu dy,vi gx]/\
 aV.C (some (ad r)) dy 0 jm (λ_ ja=>
 (bj (zY (aq+1)) ja/\m80 (zY (aq+1)) ja<m80 aq H54))))
 else
 ∃cj bt bx a7 bg a9 cw cv ck,aL ek (ad r) 0 [vi cj,vi bt,vu bx,vs a7 bg a9,vs cw cv ck]/\
 ∀f9 H58,f9=ek.size->H58=ek.push (.cells #[vi cj,vi bt,vu bx,vs a7 bg a9,vs cw cv ck] 147)->
 bH 5 147 72 [vi 0,vi 0,vu 0,VN,VN] f outN outC (some (ad f9)) 1 H58 (λdw c1 i3=>
 (c6 dw (outN+1) c1 (zY (s42+1)) (f1.size::ms) i3/\m32 dw (outN+1) c1 (zY (s42+1)) (f1.size::ms) i3<m32 f outN outC s42 ms H9))))))))))/\(
 ∀p H60,p=fq.size->H60=fq.push (.cells #[vi 0,vi 0,vu 0,VN,VN] 147)->aL H60 (ad b) 0 [vp a5]/\aL H60 (ad e) 0 [vu a6]/\aL H60 (ad b) 0 [vp aw]/\aL H60 (ad e) 0 [vu ai]/\
 bX.C a5 a6 H60 (λil g1=> ∃b3,il=vi b3/\aL g1 (ad b) 0 [vp aw]/\aL g1 (ad e) 0 [vu ai]/\
 eI.C aw ai g1 (λhi g8=> ∃ce,hi=vu ce/\
 (aH g8 (ad p) 0 5)/\ ∀ga,ga=aP g8 (ad p) [vi ag,vi b3,vu ce,VN,VN] 0->
 ∃dx,hat ga (ad b)=some (vp dx)/\
 ∃em,hat ga (ad e)=some (vu em)/\
 bT.C dx em ga (λd4 f2=>d4=d4/\
 ∀(a3:LoopState->Option Code->Obj) (lp_3:Nat) (H65:zV),lp_3=f2.size+1->H65=(f2.push (.deferred (some []))).push (a3 .ready none)->
 ∀h9,(∀(ak:Int) (x_59:Int) (H66:zV) (vRy_3:zv),H66[lp_3]?=some (a3 .ready none)->
 (H66[lp_3]?=some (a3 .ready none)/\ ∀ft,ft=aM H66 lp_3 (a3 .busy none)->
 ∃eu,hat ft (ad m)=some (.map eu)/\
 ∃gd,eu=some gd/\
 ∃gq cl_4 ks_4,ft[gd]?=some (.map gq cl_4)/\vb (aY .u64) gq.toList ks_4/\
 ∃ac,(yG ks_4 x_59).getD (vi 0)=vi ac/\
 if ac=0 then(
 ∃fm,hat ft (ad e)=some (vu fm)/\
 cM.C fm ft (λjd ha=> ∃dk,jd=vi dk/\
 if dk=2 then(
 ∃fl,hat ha (ad e)=some (vu fl)/\
 eY.C fl ha (λh7 hb=> ∃dj,h7=vi dj/\
 if ak=dj then(
 ∃d3,hat hb (ad b)=some (vp d3)/\
 bO.C d3 x_59 hb (λiq h1=> ∃dh,iq=vi dh/\
 if dh>0 then(
 aV.C (some (ad p)) x_59 (-1) h1 (λ_ it=>
 it[lp_3]?=some (a3 .busy none)/\
 vRy_3 VT (aM it lp_3 (a3 .ready none))))
 else
 aV.C (some (ad p)) x_59 ac h1 (λ_ io=>
 io[lp_3]?=some (a3 .busy none)/\
 vRy_3 VT (aM io lp_3 (a3 .ready none)))))
 else
 aV.C (some (ad p)) x_59 ac hb (λ_ ii=>
 ii[lp_3]?=some (a3 .busy none)/\
 vRy_3 VT (aM ii lp_3 (a3 .ready none)))))
 else
 aV.C (some (ad p)) x_59 ac ha (λ_ hy=>
 hy[lp_3]?=some (a3 .busy none)/\
 vRy_3 VT (aM hy lp_3 (a3 .ready none)))))
 else
 aV.C (some (ad p)) x_59 ac ft (λ_ i0=>
 i0[lp_3]?=some (a3 .busy none)/\
 vRy_3 VT (aM i0 lp_3 (a3 .ready none))))->
 FC prog h9 #[vi ak,vu x_59] H66 vRy_3)->
 FE prog d4 #[h9] H65 (λ_ ig=>
 (ig[lp_3]?=some (a3 .ready none)/\ ∀hf,hf=aM ig lp_3 (a3 .exhausted none)->
 ∃(bj:zw) (m80:Int->zV->Nat),bj 0 hf/\ ∀au H78,bj au H78->
 ∃en a0 et,hat H78 ((ad p).add 3)=some (vs en a0 et)/\
 ∃dg,hat H78 (ad b)=some (vp dg)/\
 ∃dz,hat H78 (ad e)=some (vu dz)/\
 cO.C dg dz H78 (λi7 ei=> ∃b6,i7=vi b6/\aL ei ((ad p).add 3) 0 [vs en a0 et]/\
 if(a0:Int)<b6 then(
 ∃cg,hat ei (ad b)=some (vp cg)/\
 ∃cy,hat ei (ad e)=some (vu cy)/\
 ∃eh,hat ei ((ad p).add 1)=some (vi eh)/\
 dF.C cg cy eh au ei (λhs jg=> ∃dr gn,hs=.tuple #[vu dr,vi gn]/\
 aV.C (some (ad p)) dr 0 jg (λ_ je=>
 (bj (zY (au+1)) je/\m80 (zY (au+1)) je<m80 au H78))))
 else
 ∃ch bm bs bf bi bc cp cs cu,aL ei (ad p) 0 [vi ch,vi bm,vu bs,vs bf bi bc,vs cp cs cu]/\
 ∀e3 H82,e3=ei.size->H82=ei.push (.cells #[vi ch,vi bm,vu bs,vs bf bi bc,vs cp cs cu] 147)->
 bH 5 147 72 [vi 0,vi 0,vu 0,VN,VN] f outN outC (some (ad e3)) 1 H82 (λec c3 i4=>
 (c6 ec (outN+1) c3 (zY (s42+1)) (f2.size::ms) i4/\m32 ec (outN+1) c3 (zY (s42+1)) (f2.size::ms) i4<m32 f outN outC s42 ms H9)))))))))))/\(
 ∀o H84,o=de.size->H84=de.push (.cells #[vi 0,vi 0,vu 0,VN,VN] 147)->aL H84 (ad e) 0 [vu bz]/\aL H84 (ad b) 0 [vp a5]/\aL H84 (ad e) 0 [vu a6]/\aL H84 (ad b) 0 [vp aw]/\aL H84 (ad e) 0 [vu ai]/\
 cM.C bz H84 (λi1 gc=> ∃bk,i1=vi bk/\aL gc (ad b) 0 [vp a5]/\aL gc (ad e) 0 [vu a6]/\aL gc (ad b) 0 [vp aw]/\aL gc (ad e) 0 [vu ai]/\
 bX.C a5 a6 gc (λh6 hc=> ∃b0,h6=vi b0/\aL hc (ad b) 0 [vp aw]/\aL hc (ad e) 0 [vu ai]/\
 eI.C aw ai hc (λh4 hd=> ∃cc,h4=vu cc/\
 (aH hd (ad o) 0 5)/\ ∀f8,f8=aP hd (ad o) [vi bk,vi b0,vu cc,VN,VN] 0->
 ∃d1,hat f8 (ad b)=some (vp d1)/\
 ∃fe,hat f8 (ad e)=some (vu fe)/\
 bT.C d1 fe f8 (λd8 fy=>d8=d8/\
 ∀(a2:LoopState->Option Code->Obj) (lp_4:Nat) (H90:zV),lp_4=fy.size+1->H90=(fy.push (.deferred (some []))).push (a2 .ready none)->
 ∀i2,(∀(am:Int) (x_81:Int) (H91:zV) (vRy_4:zv),H91[lp_4]?=some (a2 .ready none)->
 (H91[lp_4]?=some (a2 .ready none)/\ ∀fw,fw=aM H91 lp_4 (a2 .busy none)->
 ∃fi,hat fw (ad m)=some (.map fi)/\
 ∃gh,fi=some gh/\
 ∃gr cl_5 ks_5,fw[gh]?=some (.map gr cl_5)/\vb (aY .u64) gr.toList ks_5/\
 ∃ab,(yG ks_5 x_81).getD (vi 0)=vi ab/\
 if ab=0 then(
 ∃e7,hat fw (ad e)=some (vu e7)/\
 cM.C e7 fw (λim g2=> ∃db,im=vi db/\
 if db=2 then(
 ∃fg,hat g2 (ad e)=some (vu fg)/\
 eY.C fg g2 (λiz g9=> ∃dl,iz=vi dl/\
 if am=dl then(
 ∃eb,hat g9 (ad b)=some (vp eb)/\
 bO.C eb x_81 g9 (λhx ik=> ∃dm,hx=vi dm/\
 if dm>0 then(
 aV.C (some (ad o)) x_81 (-1) ik (λ_ ip=>
 ip[lp_4]?=some (a2 .busy none)/\
 vRy_4 VT (aM ip lp_4 (a2 .ready none))))
 else
 aV.C (some (ad o)) x_81 ab ik (λ_ ic=>
 ic[lp_4]?=some (a2 .busy none)/\
 vRy_4 VT (aM ic lp_4 (a2 .ready none)))))
 else
 aV.C (some (ad o)) x_81 ab g9 (λ_ ih=>
 ih[lp_4]?=some (a2 .busy none)/\
 vRy_4 VT (aM ih lp_4 (a2 .ready none)))))
 else
 aV.C (some (ad o)) x_81 ab g2 (λ_ hq=>
 hq[lp_4]?=some (a2 .busy none)/\
 vRy_4 VT (aM hq lp_4 (a2 .ready none)))))
 else
 aV.C (some (ad o)) x_81 ab fw (λ_ gm=>
 gm[lp_4]?=some (a2 .busy none)/\
 vRy_4 VT (aM gm lp_4 (a2 .ready none))))->
 FC prog i2 #[vi am,vu x_81] H91 vRy_4)->
 FE prog d8 #[i2] H90 (λ_ gu=>
 (gu[lp_4]?=some (a2 .ready none)/\ ∀gg,gg=aM gu lp_4 (a2 .exhausted none)->
 ∃(bj:zw) (m80:Int->zV->Nat),bj 0 gg/\ ∀av H103,bj av H103->
 ∃fc az ew,hat H103 ((ad o).add 3)=some (vs fc az ew)/\
 ∃di,hat H103 (ad b)=some (vp di)/\
 ∃ee,hat H103 (ad e)=some (vu ee)/\
 cO.C di ee H103 (λij cz=> ∃b2,ij=vi b2/\aL cz ((ad o).add 3) 0 [vs fc az ew]/\
 if(az:Int)<b2 then(
 ∃b9,hat cz (ad b)=some (vp b9)/\
 ∃c2,hat cz (ad e)=some (vu c2)/\
 ∃d9,hat cz ((ad o).add 1)=some (vi d9)/\
 dF.C b9 c2 d9 av cz (λhh hp=> ∃du gv,hh=.tuple #[vu du,vi gv]/\
 aV.C (some (ad o)) du 0 hp (λ_ gl=>
 (bj (zY (av+1)) gl/\m80 (zY (av+1)) gl<m80 av H103))))
 else
 ∃cq bu bo bh bd bb cr ci ct,aL cz (ad o) 0 [vi cq,vi bu,vu bo,vs bh bd bb,vs cr ci ct]/\
 ∀fk H107,fk=cz.size->H107=cz.push (.cells #[vi cq,vi bu,vu bo,vs bh bd bb,vs cr ci ct] 147)->
 bH 5 147 72 [vi 0,vi 0,vu 0,VN,VN] f outN outC (some (ad fk)) 1 H107 (λd6 c0 gz=>
 (c6 d6 (outN+1) c0 (zY (s42+1)) (fy.size::ms) gz/\m32 d6 (outN+1) c0 (zY (s42+1)) (fy.size::ms) gz<m32 f outN outC s42 ms H9)))))))))))
 else
 Shut (ms) H9 (λh8=>
 R (vs f outN outC) h8))
theorem fS.link{hv af:zW}{q y:Nat}{H:zV}{R:zv}(h:pt hv af q y H R):C hv af q y H R:=by
 refine sa K0 111 func79 ?_
 intro w0 Q hQ
 unfold pt zY at h
 refine nx [(0,vp hv),(1,vs af q y)]<|ar 0<|t1 (some 2) (λb=>vp (pa b)) (.cells #[vp hv] 23)<|λb H1 e1 e2=>have h:=h b H1 e1 e2;kc [0] [(2,vp (pa b))]<|eT 1 [] []<|ar 1<|have⟨x,q3,h⟩:=h;hH 21 23 q3 []<|eH 1 [] [(22,vs af q y)]<|BD 23 [21,22] h λaj d n rb H2 h=>eH 3 [23] [(24,vs aj d n),(25,.map rb)]<|t1 (some 6) (λb=>vp (pa b)) (.cells #[.map none] 149)<|λm H3 e4 e5=>have h:=h m H3 e4 e5;kc [] [(6,vp (pa m))]<|eH 1 [24] [(5,vs aj d n)]<|have⟨q7,h⟩:=h;eQ 149 (.map rb) q7<|λH4 e6=>have h:=h H4 e6;kc [25] []<|yH<|ar 2<|t1 (some 7) (λb=>vp (pa b)) (.cells #[vi 0,vi 0,vu 0,VN,VN] 147)<|λa1 H5 e8 e9=>have h:=h a1 H5 e8 e9;kc [] [(7,vp (pa a1))]<|yH<|ge<|ar 3<|eT 3 [1] [(26,vs af q y),(27,vi q),(28,vi 0)]<|p0 0<|have⟨gj,m13,i10,i11⟩:=h;bL (x:=zy) (σ:=Int) (λs_=> [(2,vp (pa b)),(5,vs aj d n),(6,vp (pa m)),(7,vp (pa a1)),(26,vs af q y),(27,vi q),(28,vi s_)]) (λs_ H=>gj s_ H) (λs_ H=>m13 s_ H) (0:Int) (by kernel_rfl) i10 sk ?_
 rintro ao H6 i12
 have h:=i11 ao H6 i12
 refine nx [(2,vp (pa b)),(5,vs aj d n),(6,vp (pa m)),(7,vp (pa a1)),(26,vs af q y),(27,vi q),(28,vi ao)]<|ar 4<|eT 1 [] [(29,.bool (decide (ao< (q:Int))))]<|ge<|qx h (λc13 h=>?_) (λc13 h=>?_)
 ·refine aJ 29 (zX c13)<|nc<|ge<|p0 1<|ar 5<|yS [29] [] ?_
  obtain⟨ah,rfl,q15,ha⟩:=h
  refine yI (some 30) 32 28 1 ah q y .i64 ao CO q15.1 q15.2 [26] [(26,vs (some ah) q y),(30,Vq (ah.add (Int.toNat ao*1)))]<|have⟨bl,q16,h⟩:=ha;hH 31 28 q16 [30]<|eT 1 [31] [(9,vu bl)]<|oo 6<|eH 1 [] [(32,vu bl)]<|have⟨f7,q17,h⟩:=h;hH 33 149 q17 []<|eH 1 [9] [(34,vu bl)] ?_
  obtain⟨mr,rfl,es,cl,ks,q18,q19,gb,e21,hb⟩:=h
  refine zd 35 (jR 149 (.map (some mr)) (vu bl) false) (vi gb) (λw hw=>(iB (kk:=(aY .u64)) (z:=vi 0) Ed underlying28 (λ_=>by kernel_rfl) (by rw[hw];exact q18) q19 false).trans (by simp only[if_true,Dj,Df,e21])) [33,34]<|zC (some 36) hb ?_;clear hb
  exact λv_2 H7 h=>kc [32,35] []<|zq<|aA<|aC<|oo 7<|eT 2 [28] [(28,vi (zY (ao+1)))]<|aR ((zY (ao+1)):Int) sk h
 refine aK 29 (zQ c13)<|zk 0<|aB<|aB<|aN<|aC<|ar 8<|yS [26,27,28,29] []<|have⟨ey,dq,dp,bp,bn,br,ep,fd,fj,q23,h⟩:=h;zN 38 147 q23 [7]<|t1 (some 39) (λb=>vs (pa b) 1 1) (.cells #[vi ey,vi dq,vu dp,vs bp bn br,vs ep fd fj] 147)<|λfs H8 e24 e25=>have h:=h fs H8 e24 e25;kc [38] [(39,vs (pa fs) 1 1)]<|eT 1 [39] [(10,vs (pa fs) 1 1)]<|ge<|ar 9<|eT 3 [5] [(40,vs aj d n),(41,vi d),(42,vi 0)]<|p0 2<|have⟨c6,m32,i26,i27⟩:=h;rL (x:=Ae) (σ:=zW×Nat×Nat×Int×(List Nat)) (λs_=> [(2,vp (pa b)),(6,vp (pa m)),(10,vs s_.1 s_.2.1 s_.2.2.1),(40,vs aj d n),(41,vi d),(42,vi s_.2.2.2.1)]) (λs_=>s_.2.2.2.2) (λs_ H=>c6 s_.1 s_.2.1 s_.2.2.1 s_.2.2.2.1 s_.2.2.2.2 H) (λs_ H=>m32 s_.1 s_.2.1 s_.2.2.1 s_.2.2.2.1 s_.2.2.2.2 H) (((pa fs),1,1,0,([])):zW×Nat×Nat×Int×(List Nat)) (by kernel_rfl) i26 sk ?_
 rintro⟨f,outN,outC,s42,ms⟩ H9 i28
 have h:=i27 f outN outC s42 ms H9 i28
 refine nx [(2,vp (pa b)),(6,vp (pa m)),(10,vs f outN outC),(40,vs aj d n),(41,vi d),(42,vi s42)]<|ar 10<|eT 1 [] [(43,.bool (decide (s42< (d:Int))))]<|ge<|qx h (λc29 h=>?_) (λc29 h=>?_)
 ·refine aJ 43 (zX c29)<|nc<|ge<|p0 3<|ar 11<|yS [43] [] ?_
  obtain⟨j,rfl,q31,hd⟩:=h
  refine yI (some 44) 32 28 1 j d n .i64 s42 CO q31.1 q31.2 [40] [(40,vs (some j) d n),(44,Vq (j.add (Int.toNat s42*1)))]<|have⟨ej,q32,h⟩:=hd;hH 45 28 q32 [44]<|t1 (some 12) (λb=>vp (pa b)) (.cells #[vu 0] 28)<|λe H10 e33 e34=>have h:=h e H10 e33 e34;kc [] [(12,vp (pa e))]<|have⟨q36,h⟩:=h;eQ 28 (vu ej) q36<|λde e35=>have h:=h de e35;kc [45] []<|yH<|ge<|have⟨bz,q37,a5,q38,a6,q39,aw,q40,ai,q41,h⟩:=h;yq 12 (Code.ops AG) [(1,(ad e),[vu bz]),(4,(ad b),[vp a5]),(4,(ad e),[vu a6]),(7,(ad b),[vp aw]),(7,(ad e),[vu ai])] 11 (bv 11 0) (show aE _ _ _ from⟨⟨q37,EO⟩,⟨q38,EO⟩,⟨q39,EO⟩,⟨q40,EO⟩,⟨q41,EO⟩,EO⟩)<|zB 0 (some 46) (vu bz) (bv 11 1) [(2,vp (pa b)),(6,vp (pa m)),(10,vs f outN outC),(12,vp (pa e)),(40,vs (some j) d n),(41,vi d),(42,vi s42),(46,vu bz)] (aQ 28 (vp (pa e))) (yY 1 yX)<|kT 2 48 (vp a5) (bv 11 5) [] (aQ 23 (vp (pa b))) (yY 4 yQ)<|kT 3 49 (vu a6) (bv 11 13) [] (aQ 28 (vp (pa e))) (yY 4 yJ)<|kT 5 51 (vp aw) (bv 11 45) [] (aQ 23 (vp (pa b))) (yY 7 yK)<|kT 6 52 (vu ai) (bv 11 109) [] (aQ 28 (vp (pa e))) (yY 7 yV)<|pF 1 9 (by kernel_rfl) ?fa1 ?fb1
  case' fa1=>
   replace h:=h.1
   refine pG 1 (some 47) (bv 11 111) 56 #[vu bz] (by kernel_rfl) (λ_=>by kernel_rfl) h (by kernel_rfl) ?_;clear h
   rintro jf fq ⟨ag,rfl,f42,f43,f44,f45,h⟩
   refine⟨[(2,vp (pa b)),(6,vp (pa m)),(10,vs f outN outC),(12,vp (pa e)),(40,vs (some j) d n),(41,vi d),(42,vi s42),(47,vi ag),(48,vp a5),(49,vu a6),(51,vp aw),(52,vu ai)],pk,(show aE _ _ _ from⟨EO,f42,f43,f44,f45,EO⟩),?_⟩
   refine pF 4 9 (by kernel_rfl) ?fa2 ?fb2
   case' fa2=>
    replace h:=h.1
    refine pG 4 (some 50) (bv 11 127) 30 #[vp a5,vu a6] (by kernel_rfl) (λ_=>by kernel_rfl) h (by kernel_rfl) ?_;clear h
    rintro jh f3 ⟨ax,rfl,f46,f47,h⟩
    refine⟨[(2,vp (pa b)),(6,vp (pa m)),(10,vs f outN outC),(12,vp (pa e)),(40,vs (some j) d n),(41,vi d),(42,vi s42),(47,vi ag),(50,vi ax),(51,vp aw),(52,vu ai)],pk,(show aE _ _ _ from⟨EO,EO,EO,f46,f47,EO⟩),?_⟩
    refine pF 7 9 (by kernel_rfl) ?fa3 ?fb3
    case' fa3=>
     replace h:=h.1
     refine pG 7 (some 53) (bv 11 255) 122 #[vp aw,vu ai] (by kernel_rfl) (λ_=>by kernel_rfl) h (by kernel_rfl) ?_;clear h
     rintro jk ir ⟨b4,rfl,h⟩
     refine⟨[(2,vp (pa b)),(6,vp (pa m)),(10,vs f outN outC),(12,vp (pa e)),(40,vs (some j) d n),(41,vi d),(42,vi s42),(47,vi ag),(50,vi ax),(53,vu b4)],pk,(show aE _ _ _ from⟨EO,EO,EO,EO,EO,EO⟩),?_⟩
     refine zB 8 (some 54) (.agg #[vi ag,vi ax,vu b4,VN,VN]) (bv 11 511) [(2,vp (pa b)),(6,vp (pa m)),(10,vs f outN outC),(12,vp (pa e)),(40,vs (some j) d n),(41,vi d),(42,vi s42),(54,.agg #[vi ag,vi ax,vu b4,VN,VN])] (pure (.value (.agg #[vi ag,vi ax,vu b4,VN,VN])):Sem Next) (λ_ _ _ _ _=>rfl)<|mO 9 (some 13) (bv 11 1023) (λb=>vp (pa b)) (.cells #[vi 0,vi 0,vu 0,VN,VN] 147) (by kernel_rfl) (λ_=>by kernel_rfl) (by kernel_rfl)<|λu H15 e48 e49=>have h:=h u H15 e48 e49;⟨[(2,vp (pa b)),(6,vp (pa m)),(10,vs f outN outC),(12,vp (pa e)),(13,vp (pa u)),(40,vs (some j) d n),(41,vi d),(42,vi s42),(54,.agg #[vi ag,vi ax,vu b4,VN,VN])],pk,(show aE _ _ _ from⟨EO,EO,EO,EO,EO,EO⟩),?_⟩
    case' fb3=>
     refine have h:=h.2;su 9 (some 13) (bv 11 639) (λb=>vp (pa b)) (.cells #[vi 0,vi 0,vu 0,VN,VN] 147) (by kernel_rfl) (λ_=>by kernel_rfl) (by kernel_rfl)<|λu H37 e102 e103=>have h:=h u H37 e102 e103;have⟨f100,f101,h⟩:=h;⟨[(2,vp (pa b)),(6,vp (pa m)),(10,vs f outN outC),(12,vp (pa e)),(13,vp (pa u)),(40,vs (some j) d n),(41,vi d),(42,vi s42),(47,vi ag),(50,vi ax),(51,vp aw),(52,vu ai)],pk,(show aE _ _ _ from⟨EO,EO,EO,f100,f101,EO⟩),?_⟩
     refine yx 7 (some 53) (bv 11 767) 122 #[vp aw,vu ai] h ?_;clear h
     rintro ht H15 ⟨b4,rfl,h⟩
     refine⟨[(2,vp (pa b)),(6,vp (pa m)),(10,vs f outN outC),(12,vp (pa e)),(13,vp (pa u)),(40,vs (some j) d n),(41,vi d),(42,vi s42),(47,vi ag),(50,vi ax),(53,vu b4)],pk,(show aE _ _ _ from⟨EO,EO,EO,EO,EO,EO⟩),?_⟩
     refine zB 8 (some 54) (.agg #[vi ag,vi ax,vu b4,VN,VN]) (bv 11 1023) [(2,vp (pa b)),(6,vp (pa m)),(10,vs f outN outC),(12,vp (pa e)),(13,vp (pa u)),(40,vs (some j) d n),(41,vi d),(42,vi s42),(54,.agg #[vi ag,vi ax,vu b4,VN,VN])] (pure (.value (.agg #[vi ag,vi ax,vu b4,VN,VN])):Sem Next) (λ_ _ _ _ _=>rfl) ?_
   case' fb2=>
    refine have h:=h.2;su 9 (some 13) (bv 11 623) (λb=>vp (pa b)) (.cells #[vi 0,vi 0,vu 0,VN,VN] 147) (by kernel_rfl) (λ_=>by kernel_rfl) (by kernel_rfl)<|λu H60 e158 e159=>have h:=h u H60 e158 e159;have⟨f154,f155,f156,f157,h⟩:=h;⟨[(2,vp (pa b)),(6,vp (pa m)),(10,vs f outN outC),(12,vp (pa e)),(13,vp (pa u)),(40,vs (some j) d n),(41,vi d),(42,vi s42),(47,vi ag),(48,vp a5),(49,vu a6),(51,vp aw),(52,vu ai)],pk,(show aE _ _ _ from⟨EO,f154,f155,f156,f157,EO⟩),?_⟩
    refine yx 4 (some 50) (bv 11 639) 30 #[vp a5,vu a6] h ?_;clear h
    rintro il g1 ⟨ax,rfl,f160,f161,h⟩
    refine⟨[(2,vp (pa b)),(6,vp (pa m)),(10,vs f outN outC),(12,vp (pa e)),(13,vp (pa u)),(40,vs (some j) d n),(41,vi d),(42,vi s42),(47,vi ag),(50,vi ax),(51,vp aw),(52,vu ai)],pk,(show aE _ _ _ from⟨EO,EO,EO,f160,f161,EO⟩),?_⟩
    refine yx 7 (some 53) (bv 11 767) 122 #[vp aw,vu ai] h ?_;clear h
    rintro hi H15 ⟨b4,rfl,h⟩
    refine⟨[(2,vp (pa b)),(6,vp (pa m)),(10,vs f outN outC),(12,vp (pa e)),(13,vp (pa u)),(40,vs (some j) d n),(41,vi d),(42,vi s42),(47,vi ag),(50,vi ax),(53,vu b4)],pk,(show aE _ _ _ from⟨EO,EO,EO,EO,EO,EO⟩),?_⟩
    refine zB 8 (some 54) (.agg #[vi ag,vi ax,vu b4,VN,VN]) (bv 11 1023) [(2,vp (pa b)),(6,vp (pa m)),(10,vs f outN outC),(12,vp (pa e)),(13,vp (pa u)),(40,vs (some j) d n),(41,vi d),(42,vi s42),(54,.agg #[vi ag,vi ax,vu b4,VN,VN])] (pure (.value (.agg #[vi ag,vi ax,vu b4,VN,VN])):Sem Next) (λ_ _ _ _ _=>rfl) ?_
  case' fb1=>
   refine have h:=h.2;su 9 (some 13) (bv 11 621) (λb=>vp (pa b)) (.cells #[vi 0,vi 0,vu 0,VN,VN] 147) (by kernel_rfl) (λ_=>by kernel_rfl) (by kernel_rfl)<|λu H84 e217 e218=>have h:=h u H84 e217 e218;have⟨f212,f213,f214,f215,f216,h⟩:=h;⟨[(2,vp (pa b)),(6,vp (pa m)),(10,vs f outN outC),(12,vp (pa e)),(13,vp (pa u)),(40,vs (some j) d n),(41,vi d),(42,vi s42),(46,vu bz),(48,vp a5),(49,vu a6),(51,vp aw),(52,vu ai)],pk,(show aE _ _ _ from⟨f212,f213,f214,f215,f216,EO⟩),?_⟩
   refine yx 1 (some 47) (bv 11 623) 56 #[vu bz] h ?_;clear h
   rintro i1 gc ⟨ag,rfl,f219,f220,f221,f222,h⟩
   refine⟨[(2,vp (pa b)),(6,vp (pa m)),(10,vs f outN outC),(12,vp (pa e)),(13,vp (pa u)),(40,vs (some j) d n),(41,vi d),(42,vi s42),(47,vi ag),(48,vp a5),(49,vu a6),(51,vp aw),(52,vu ai)],pk,(show aE _ _ _ from⟨EO,f219,f220,f221,f222,EO⟩),?_⟩
   refine yx 4 (some 50) (bv 11 639) 30 #[vp a5,vu a6] h ?_;clear h
   rintro h6 hc ⟨ax,rfl,f223,f224,h⟩
   refine⟨[(2,vp (pa b)),(6,vp (pa m)),(10,vs f outN outC),(12,vp (pa e)),(13,vp (pa u)),(40,vs (some j) d n),(41,vi d),(42,vi s42),(47,vi ag),(50,vi ax),(51,vp aw),(52,vu ai)],pk,(show aE _ _ _ from⟨EO,EO,EO,f223,f224,EO⟩),?_⟩
   refine yx 7 (some 53) (bv 11 767) 122 #[vp aw,vu ai] h ?_;clear h
   rintro h4 H15 ⟨b4,rfl,h⟩
   refine⟨[(2,vp (pa b)),(6,vp (pa m)),(10,vs f outN outC),(12,vp (pa e)),(13,vp (pa u)),(40,vs (some j) d n),(41,vi d),(42,vi s42),(47,vi ag),(50,vi ax),(53,vu b4)],pk,(show aE _ _ _ from⟨EO,EO,EO,EO,EO,EO⟩),?_⟩
   refine zB 8 (some 54) (.agg #[vi ag,vi ax,vu b4,VN,VN]) (bv 11 1023) [(2,vp (pa b)),(6,vp (pa m)),(10,vs f outN outC),(12,vp (pa e)),(13,vp (pa u)),(40,vs (some j) d n),(41,vi d),(42,vi s42),(54,.agg #[vi ag,vi ax,vu b4,VN,VN])] (pure (.value (.agg #[vi ag,vi ax,vu b4,VN,VN])):Sem Next) (λ_ _ _ _ _=>rfl) ?_
  all_goals
   refine have⟨q51,h⟩:=h;fH 10 none (bv 11 2047) (jJ 147 (vp (pa u)) (.agg #[vi ag,vi ax,vu b4,VN,VN])) (λHz=>Hz=aP H15 (ad u) [vi ag,vi ax,vu b4,VN,VN] 0) (by kernel_rfl) (λ_=>by kernel_rfl) (iR [vi ag,vi ax,vu b4,VN,VN] 5 (by kernel_rfl) (by kernel_rfl) (λ_=>by kernel_rfl) (by kernel_rfl) q51) (by kernel_rfl)<|λf6 e50=>have h:=h f6 e50;⟨[(2,vp (pa b)),(6,vp (pa m)),(10,vs f outN outC),(12,vp (pa e)),(13,vp (pa u)),(40,vs (some j) d n),(41,vi d),(42,vi s42)],pk,(show aE _ _ _ from⟨EO,EO,EO,EO,EO,EO⟩),?_⟩
   refine eq [(2,vp (pa b)),(6,vp (pa m)),(10,vs f outN outC),(12,vp (pa e)),(13,vp (pa u)),(40,vs (some j) d n),(41,vi d),(42,vi s42)] sk<|yz<|aC<|ge<|ar 13<|have⟨ea,q52,h⟩:=h;CC (some 55) 23 q52 [(2,vp (pa b)),(6,vp (pa m)),(10,vs f outN outC),(12,vp (pa e)),(13,vp (pa u)),(40,vs (some j) d n),(41,vi d),(42,vi s42),(55,vp ea)] ?_
   obtain⟨eo,q53,h⟩:=h
   refine hH 56 28 q53 []<|zC (some 57) h ?_;clear h
   rintro fx f0 ⟨-,h⟩
   refine kc [55,56] [(57,fx)]<|yH<|p0 4<|lA (g:=.tmp 57) (ps:= #[58,59]) (assign:=B7) (body:=K51) (fx) (by kernel_rfl) (by kernel_rfl) (by kernel_rfl)<|λrc lp H18 r54 e55 e56 y57=>FE.mono (h rc lp H18 e55 e56 (.func (.yield lp) #[] #[]) ?_) ?_
   ·clear h
    refine λal x_18 H19 vRy q58 h=>y57 #[vi al,vu x_18] H19 vRy (by kernel_rfl) q58 (λw1x=>?_)
    refine Ai [] [(58,vi al),(59,vu x_18)]<|ar 14<|eT 1 [10,40,41,42,57,58] [(14,vi al)]<|oo 15<|eH 1 [59] [(15,vu x_18)]<|zq<|have⟨q60,h⟩:=h;aC<|lz r54 q60<|λfv e59=>have h:=h fv e59;p0 5<|ar 16<|have⟨e0,q61,h⟩:=h;hH 60 149 q61 [6]<|eH 1 [] [(61,vu x_18)] ?_
    obtain⟨gf,rfl,gy,cl_2,ks_2,q62,q63,ae,e81,he⟩:=h
    have h:=he
    refine zd 62 (jR 149 (.map (some gf)) (vu x_18) false) (vi ae) (λw hw=>(iB (kk:=(aY .u64)) (z:=vi 0) Ed underlying28 (λ_=>by kernel_rfl) (by rw[hw];exact q62) q63 false).trans (by simp only[if_true,Dj,Df,e81])) [60,61]<|eT 1 [62] [(16,vi ae)]<|ge<|ar 17<|eH 3 [] [(65,.bool (ae==0))] ?_
    revert h;refine Bo (λc65 h=>?_) (λc65 h=>?_)
    ·refine o0 65 (zK c65)<|have⟨ex,q67,h⟩:=h;hH 66 28 q67 []<|sv 67 [66] h λdn g6 h=>eH 3 [65,67] [(70,.bool (dn==2))]<|qx h (λc68 h=>?_) (λc68 h=>?_)
     ·refine o0 70 (zK c68)<|eH 1 [14] [(71,vi al)]<|have⟨er,q70,h⟩:=h;hH 72 28 q70 [12]<|sv 73 [72] h λdc g5 h=>eH 3 [70,71,73] [(76,.bool (al==dc))]<|qx h (λc71 h=>?_) (λc71 h=>?_)
      ·refine o0 76 (zK c71)<|have⟨d0,q73,h⟩:=h;hH 77 23 q73 [2]<|eH 1 [] [(78,vu x_18)]<|sv 79 [77,78] h λc7 i5 h=>eT 2 [76,79] [(81,.bool (decide (c7>0)))]<|qx h (λc74 h=>?_) (λc74 h=>?_)
       ·refine aJ 81 (zX c74)<|oo 18<|eT 1 [16,81] [(16,vi (-1))]<|oo 19<|eH 2 [15,16] [(82,vu x_18),(83,vi (-1))]<|zC (some 84) h ?_;clear h
        refine λv_10 iu h=>⟨[],pk,?_⟩
        exact zq<|aA<|have⟨q76,h⟩:=h;bW r54 q76 h
       refine aK 81 (zQ c74)<|nc<|oo 19<|eH 2 [15,16,81] [(82,vu x_18),(83,vi ae)]<|zC (some 84) h ?_;clear h
       refine λv_11 i9 h=>⟨[],pk,?_⟩
       exact zq<|aA<|have⟨q77,h⟩:=h;bW r54 q77 h
      refine o0 76 (zJ c71)<|eT 5 [2,76] [(81,VF)]<|yL 81<|nc<|oo 19<|eH 2 [15,16,81] [(82,vu x_18),(83,vi ae)] ?_
      refine zC (some 84) h ?_;clear h
      refine λv_12 iy h=>⟨[],pk,?_⟩
      exact zq<|aA<|have⟨q78,h⟩:=h;bW r54 q78 h
     refine o0 70 (zJ c68)<|eT 11 [2,12,14,70] [(81,VF)]<|yL 81<|nc<|oo 19<|eH 2 [15,16,81] [(82,vu x_18),(83,vi ae)] ?_
     refine zC (some 84) h ?_;clear h
     refine λv_13 hu h=>⟨[],pk,?_⟩
     exact zq<|aA<|have⟨q79,h⟩:=h;bW r54 q79 h
    refine o0 65 (zJ c65)<|eT 16 [2,12,14,65] [(81,VF)]<|yL 81<|nc<|oo 19<|eH 2 [15,16,81] [(82,vu x_18),(83,vi ae)] ?_
    refine zC (some 84) h ?_;clear h
    refine λv_14 hj h=>⟨[],pk,?_⟩
    exact zq<|aA<|have⟨q80,h⟩:=h;bW r54 q80 h
   clear h y57
   rintro _ iw (⟨q83,h⟩)
   refine .inl ⟨q83,λg7 e99=>?_⟩
   refine have h:=h g7 e99;kJ (f0.size::ms) rfl<|Ai [57] []<|aA<|aC<|ge<|ar 20<|eT 1 [] [(17,vi 0)]<|p0 6<|have⟨gk,m69,i84,i85⟩:=h;bL (x:=BA) (σ:=Int) (λs_=> [(2,vp (pa b)),(6,vp (pa m)),(10,vs f outN outC),(12,vp (pa e)),(13,vp (pa u)),(17,vi s_),(40,vs (some j) d n),(41,vi d),(42,vi s42)]) (λs_ H=>gk s_ H) (λs_ H=>m69 s_ H) (0:Int) (by kernel_rfl) i84 sk ?_
   rintro i H31 i86
   have h:=i85 i H31 i86
   refine nx [(2,vp (pa b)),(6,vp (pa m)),(10,vs f outN outC),(12,vp (pa e)),(13,vp (pa u)),(17,vi i),(40,vs (some j) d n),(41,vi d),(42,vi s42)]<|ge<|ge ?_
   obtain⟨xB,xN,xC,q87,df,q88,ef,q89,h⟩:=h
   refine yq 21 (Code.ops BX) [(7,((ad u).add 3),[vs xB xN xC]),(5,(ad b),[vp df]),(5,(ad e),[vu ef])] 7 (bv 7 0) (show aE _ _ _ from⟨⟨q87,EO⟩,⟨q88,EO⟩,⟨q89,EO⟩,EO⟩)<|zr 0 (some 85) (Vq ((ad u).add 3)) (bv 7 1) [(2,vp (pa b)),(6,vp (pa m)),(10,vs f outN outC),(12,vp (pa e)),(13,vp (pa u)),(17,vi i),(40,vs (some j) d n),(41,vi d),(42,vi s42),(85,Vq ((ad u).add 3))]<|kT 1 86 (vs xB xN xC) (bv 7 3) [85] (aQ 32 (Vq ((ad u).add 3))) (jV 7 (λ_=>by kernel_rfl) yX (.inr (by kernel_rfl)))<|aG 2 87 (vi xN) (bv 7 7) [86]<|kT 3 88 (vp df) (bv 7 15) [] (aQ 23 (vp (pa b))) (yY 5 yQ)<|kT 4 89 (vu ef) (bv 7 31) [] (aQ 28 (vp (pa e))) (yY 5 yJ)<|yx 5 (some 90) (bv 7 63) 101 #[vp df,vu ef] h ?_;clear h
   rintro ho el ⟨b1,rfl,f90,h⟩
   refine⟨[(2,vp (pa b)),(6,vp (pa m)),(10,vs f outN outC),(12,vp (pa e)),(13,vp (pa u)),(17,vi i),(40,vs (some j) d n),(41,vi d),(42,vi s42),(87,vi xN),(90,vi b1)],pk,(show aE _ _ _ from⟨f90,EO,EO,EO⟩),?_⟩
   refine zB 6 (some 91) (.bool (decide ((xN:Int)<b1))) (bv 7 127) [(2,vp (pa b)),(6,vp (pa m)),(10,vs f outN outC),(12,vp (pa e)),(13,vp (pa u)),(17,vi i),(40,vs (some j) d n),(41,vi d),(42,vi s42),(91,.bool (decide ((xN:Int)<b1)))] (pure (.value (.bool (decide ((xN:Int)<b1)))):Sem Next) (λ_ _ _ _ _=>rfl)<|eq [(2,vp (pa b)),(6,vp (pa m)),(10,vs f outN outC),(12,vp (pa e)),(13,vp (pa u)),(17,vi i),(40,vs (some j) d n),(41,vi d),(42,vi s42),(91,.bool (decide ((xN:Int)<b1)))] sk<|yz<|aC<|qx h (λc91 h=>?_) (λc91 h=>?_)
   ·refine aJ 91 (zX c91)<|nc<|ge<|p0 7<|ar 23<|Ac [(2,vp (pa b)),(6,vp (pa m)),(10,vs f outN outC),(12,vp (pa e)),(13,vp (pa u)),(17,vi i),(40,vs (some j) d n),(41,vi d),(42,vi s42)]<|have⟨b8,q93,h⟩:=h;hH 95 23 q93 []<|have⟨c4,q94,h⟩:=h;hH 96 28 q94 []<|eH 1 [] [(97,Vq ((ad u).add 1))] ?_
    obtain⟨d5,q95,h⟩:=h
    refine hH 98 3 q95 [97]<|eH 1 [] [(99,vi i)]<|yT 100 [95,96,98,99] h λra gw jn h=>eT 5 [100] [(18,vu ra)]<|oo 24<|eH 1 [18] [(103,vu ra)]<|zC (some 104) h ?_;clear h
    exact λv_17 h3 h=>kc [103] []<|zq<|aA<|aC<|oo 22<|eT 3 [17] [(17,vi (zY (i+1)))]<|aR ((zY (i+1)):Int) sk h
   refine aK 91 (zQ c91)<|zk 6<|aB<|aB<|aN<|aC<|oo 25<|va 1 [(2,vp (pa b)),(6,vp (pa m)),(13,vp (pa u)),(40,vs (some j) d n),(41,vi d),(42,vi s42),(105,vs f outN outC)]<|have⟨cx,bw,bq,be,ba,a8,co,cn,cm,q96,h⟩:=h;zN 106 147 q96 [13]<|t1 (some 107) (λb=>vs (pa b) 1 1) (.cells #[vi cx,vi bw,vu bq,vs be ba a8,vs co cn cm] 147) ?_
   intro f4 H35 e97 e98
   replace h:=h f4 H35 e97 e98
   refine kc [106] [(107,vs (pa f4) 1 1)]<|zi (some 108) (cF #[144,144] 144 #[vs f outN outC,vs (pa f4) 1 1]) _ (λ_=>by kernel_rfl) (bJ (T:=147) (sz:=5) (bytes:=72) (zero:=(.agg #[vi 0,vi 0,vu 0,VN,VN]:Value)) underlying144 underlying144 rfl (show prog.info? 147=some t147 from by kernel_rfl) (by kernel_rfl) (by kernel_rfl) (by decide) (by kernel_rfl) (by first | exact h | (simpa only[Value.cells,C9]using h))) ?_;clear h
   rintro _ hz ⟨ap,fz,rfl,h⟩
   exact kc [105,107] [(108,vs ap (outN+1) fz)]<|eH 1 [108] [(10,vs ap (outN+1) fz)]<|zq<|aA<|aC<|oo 26<|eT 2 [42] [(42,vi (zY (s42+1)))]<|mc (mk:=(λs_=>s_.2.2.2.2)) (I:=(λs_ H=>c6 s_.1 s_.2.1 s_.2.2.1 s_.2.2.2.1 s_.2.2.2.2 H)) (μ:=(λs_ H=>m32 s_.1 s_.2.1 s_.2.2.1 s_.2.2.2.1 s_.2.2.2.2 H)) (s:=(_,_,_,_,_)) ((ap,(outN+1),fz,(zY (s42+1)),(f0.size::ms)):zW×Nat×Nat×Int×(List Nat)) sk h
 refine aK 43 (zQ c29)<|zk 2<|aB<|aB<|aN<|aC<|ar 27<|u5 2 [(4,vs f outN outC)]<|zx ?_
 show At _ _ _ _ _ (Q .ret)
 refine lw (fn:=f79) (ms) hQ (DS (λh8 h=>?_) h)
 exact⟨[vs f outN outC],(show bV _ _ _ [.tmp 4] _ from .tmp (by kernel_rfl) (.nil)),h⟩
