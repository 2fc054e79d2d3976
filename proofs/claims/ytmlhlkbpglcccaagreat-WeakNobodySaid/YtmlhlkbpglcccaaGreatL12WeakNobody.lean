/- Printed: what each function asks, and that it is sound. -/
import Derived.Test.YtmlhlkbpglcccaaGreatFnsC
import Derived.Test.YtmlhlkbpglcccaaGreatEqa
set_option linter.unusedSimpArgs false
set_option linter.unusedVariables false
set_option maxHeartbeats 1000000
noncomputable section
namespace Go.Proofs.YtmlhlkbpglcccaaGreat
open Go
/-! moraine/morainelaw12.WeakNobody -/
namespace bO
def K0:=Func.code Tryz.f4
def K2:=cb K0
def K4:=cb K2
def K12:=cb K4
def K14:=cb K12
def K16:=cb K14
def K21:=ca K16
def K24:=cb K21
def K25:=ca K24
def K26:=ca K25
end bO
def bO.pt(lB:zW)(lN lC:Nat)(wB:zW)(wN wC:Nat)(H:zV)(R:zj):Prop:=
 if((decide ((lN:Int)>1000)) || (decide ((wN:Int)>1000)))=true then(
 bM.C H (λv H1=> ∃x:Bool,v=.bool x/\
 R (.bool x) H1))
 else
 dg.C none H (λ_ H2=>
 df.C none lB lN lC H2 (λy H3=> ∃(xB:zW) (xN xC:Nat),y=.slice xB xN xC/\
 eL.C none wB wN wC H3 (λaa H4=> ∃(j:zW) (m l:Nat),aa=.slice j m l/\
 cF.C xB xN xC lB lN lC H4 (λab H5=> ∃p:Bool,ab=.bool p/\
 if p=true then(
 cv.C j m l wB wN wC H5 (λu H6=> ∃q:Bool,u=.bool q/\
 if q=true then(
 ∃(s:zk) (m27:Int->zV->Nat),s 0 H6/\ ∀(i:Int) (H7:zV),s i H7->
 if i< (xN:Int)then(
 ∃b:Addr,xB=some b/\
 zv i xN/\
 ∃o:Int,hat H7 (b.add (Int.toNat i*2))=some (.int .u64 o)/\
 zv i xN/\
 (aK H7 (b.add (Int.toNat i*2)) 0 1)/\ ∀H8,H8=aS H7 (b.add (Int.toNat i*2)) [.int .u64 (IntKind.wrap .u64 (o+1))] 0->
 zv i xN/\
 ∃g d:Int,aT H8 (b.add (Int.toNat i*2)) 0 [.int .u64 g,.int .u64 d]/\
 ∃n:Addr,lB=some n/\
 zv i lN/\
 ∃f e:Int,aT H8 (n.add (Int.toNat i*2)) 0 [.int .u64 f,.int .u64 e]/\
 (True)/\
 if g=f/\d=e then(
 R (.bool false) H8)
 else
 (s (zY (i+1)) H8/\m27 (zY (i+1)) H8<m27 i H7))
 else
 bM.C H7 (λz H9=> ∃r:Bool,z=.bool r/\
 R (.bool r) H9))
 else
 R (.bool false) H6))
 else
 R (.bool false) H5))))
namespace bO
set_option maxRecDepth 100000 in
theorem link{lB:zW}{lN lC:Nat}{wB:zW}{wN wC:Nat}{H:zV}{R:zj}(h:pt lB lN lC wB wN wC H R):C lB lN lC wB wN wC H R:=by
 refine T_en K0 56 Tryz.func4 ?_
 intro w0 Q hQ
 unfold pt zY at h
 refine T_su [(0,vs lB lN lC),(1,vs wB wN wC)]<| ar 0<| T_ed 1 [] []<| T_sz<| ar 1 ?_
 refine fm [(0,vs lB lN lC),(1,vs wB wN wC),(15,.bool ((decide ((lN:Int)>1000)) || (decide ((wN:Int)>1000))))] ?_ ?_
 ·refine aE ?_
  by_cases c3:((decide ((lN:Int)>1000)) || (decide ((wN:Int)>1000)))=true
  ·rw[if_pos c3]at h
   refine aI 15 c3<| ar 2<| T_nu []<| T_c (some 16) h ?_;clear h
   rintro v H1 ⟨x,rfl,h⟩
   refine⟨[(16,.bool x)],pk,?_⟩
   exact T_nr 1 [4] [.bool x] hQ h
  rw[if_neg c3]at h
  refine aJ 15 (zZ c3)<| T_kt<| ar 3<| T_nu [(0,vs lB lN lC),(1,vs wB wN wC)]<| T_c (some 17) h ?_;clear h
  intro v_2 H2 h
  refine T_pd [] []<| T_e<| ar 4<| T_nd 1 [] [(18,vs lB lN lC)]<| T_c (some 19) h ?_;clear h
  rintro y H3 ⟨xB,xN,xC,rfl,h⟩
  refine T_pd [18] [(19,vs xB xN xC)]<| T_nd 1 [] [(20,vs wB wN wC)]<| T_c (some 21) h ?_;clear h
  rintro aa H4 ⟨j,m,l,rfl,h⟩
  refine T_pd [20] [(21,vs j m l)]<| T_ed 2 [19,21] [(5,vs xB xN xC),(6,vs j m l)]<| T_sz<| ar 5<| T_nd 2 [] [(22,vs xB xN xC),(23,vs lB lN lC)]<| T_c (some 24) h ?_;clear h
  rintro ab H5 ⟨p,rfl,h⟩
  refine T_pd [22,23] [(24,.bool p)]<| T_nd 2 [24] [(26,.bool (!p))] ?_
  by_cases c5:p=true
  ·rw[if_pos c5]at h
   have b6:(!p)=false:=congrArg Bool.not (c5)
   have b62:p=true:=c5
   refine N_bd 26 (b:=(!p)) (v:=false) (by simp only[b6,b62,Bool.not_true,Bool.not_false]) ?_
   clear b6 b62
   refine T_nd 2 [1,6] [(27,vs j m l),(28,vs wB wN wC)]<| T_c (some 29) h ?_;clear h
   rintro u H6 ⟨q,rfl,h⟩
   refine T_pd [27,28] [(29,.bool q)]<| T_ed 2 [26,29] [(31,.bool (!q))] ?_
   by_cases c7:q=true
   ·rw[if_pos c7]at h
    refine aJ 31 (congrArg Bool.not (c7))<| T_kt<| T_sz<| ar 7<| T_ed 1 [31] [(7,vi 0)]<| T_bz 0 ?_
    obtain⟨s,m27,i9,i10⟩:=h
    refine de (x:=K26) (σ:=Int) (λs_=> [(0,vs lB lN lC),(5,vs xB xN xC),(7,vi s_)]) (λs_ H=>s s_ H) (λs_ H=>m27 s_ H) (0:Int) (by kernel_rfl) i9 sk ?_
    rintro i H7 i11
    have h:=i10 i H7 i11
    refine T_su [(0,vs lB lN lC),(5,vs xB xN xC),(7,vi i)]<| T_sz<| ar 8<| T_ed 4 [] [(35,.bool (decide (i< (xN:Int))))] ?_
    by_cases c12:i< (xN:Int)
    ·rw[if_pos c12]at h
     refine aI 35 (zX c12)<| T_kt<| T_sz<| T_bz 1<| ar 10<| T_nd 2 [35] [(38,vs xB xN xC),(39,vi i)] ?_
     obtain⟨b,rfl,q14,h⟩:=h
     refine T_xd (some 40) 31 36 2 b xN xC .i64 i Tryz.underlying31 q14.1 q14.2 [5,38] [(5,vs (some b) xN xC),(38,vs (some b) xN xC),(40,vp (some (b.add (Int.toNat i*2))))]<| T_nd 1 [40] [(41,vp (some (b.add (Int.toNat i*2))))] ?_
     obtain⟨o,q15,h⟩:=h
     refine T_l1 42 28 q15 [41]<| T_nd 1 [42] [(43,vu (IntKind.wrap .u64 (o+1)))] ?_
     obtain⟨q16,h⟩:=h
     refine T_xd (some 44) 31 36 2 b xN xC .i64 i Tryz.underlying31 q16.1 q16.2 [38,39] [(44,vp (some (b.add (Int.toNat i*2))))]<| T_nd 1 [44] [(45,vp (some (b.add (Int.toNat i*2))))] ?_
     obtain⟨q18,h⟩:=h
     refine fE 28 (vu (IntKind.wrap .u64 (o+1))) q18 ?_
     intro H8 e17
     replace h:=h H8 e17
     refine T_pd [43,45] []<| T_e<| T_sz<| jF 11<| T_q1 46 (vs (some b) xN xC) []<| T_q1 47 (vi i) [] ?_
     obtain⟨q19,h⟩:=h
     refine Q_op (some 48) (aX 31 (vs (some b) xN xC) (vi i)) (vp (some (b.add (Int.toNat i*2)))) (λ_=>by kernel_rfl) (λw _=>cW (P:=Tryz.prog) (t:=31) (elem:=36) (sz:=2) (a:=b) (len:=xN) (cap:=xC) (k:=.i64) (i:=i) Tryz.underlying31 (λ_=>by kernel_rfl) q19.1 q19.2 w) [(0,vs lB lN lC),(5,vs (some b) xN xC),(7,vi i),(48,vp (some (b.add (Int.toNat i*2))))] pk ?_
     obtain⟨g,d,q20,h⟩:=h
     refine Q_op (some 49) (aP 36 (vp (some (b.add (Int.toNat i*2))))) (.agg #[vu g,vu d]) (λ_=>by kernel_rfl) (eq (eK (λ_=>by kernel_rfl) (λ_=>by kernel_rfl) q20)) [(0,vs lB lN lC),(5,vs (some b) xN xC),(7,vi i),(49,.agg #[vu g,vu d])] pk ?_
     refine T_q (some 50) (vs lB lN lC) [(0,vs lB lN lC),(5,vs (some b) xN xC),(7,vi i),(49,.agg #[vu g,vu d]),(50,vs lB lN lC)]<| T_q1 51 (vi i) [] ?_
     obtain⟨n,rfl,q21,h⟩:=h
     refine Q_op (some 52) (aX 31 (vs (some n) lN lC) (vi i)) (vp (some (n.add (Int.toNat i*2)))) (λ_=>by kernel_rfl) (λw _=>cW (P:=Tryz.prog) (t:=31) (elem:=36) (sz:=2) (a:=n) (len:=lN) (cap:=lC) (k:=.i64) (i:=i) Tryz.underlying31 (λ_=>by kernel_rfl) q21.1 q21.2 w) [(0,vs (some n) lN lC),(5,vs (some b) xN xC),(7,vi i),(49,.agg #[vu g,vu d]),(52,vp (some (n.add (Int.toNat i*2))))] pk ?_
     obtain⟨f,e,q22,h⟩:=h
     refine Q_op (some 53) (aP 36 (vp (some (n.add (Int.toNat i*2))))) (.agg #[vu f,vu e]) (λ_=>by kernel_rfl) (eq (eK (λ_=>by kernel_rfl) (λ_=>by kernel_rfl) q22)) [(0,vs (some n) lN lC),(5,vs (some b) xN xC),(7,vi i),(49,.agg #[vu g,vu d]),(53,.agg #[vu f,vu e])] pk ?_
     obtain⟨q23,h⟩:=h
     refine Q_op (some 54) (binN .eql 36 (.agg #[vu g,vu d]) (.agg #[vu f,vu e])) (.bool (decide (g=f/\d=e))) (λ_=>by kernel_rfl) (λw _=>nT (P:=Tryz.prog) (T:=36) (I:=28) Tryz.underlying36 (by kernel_rfl) Tryz.underlying28 ⟨by decide,by decide⟩ ⟨rfl,rfl⟩ ⟨rfl,rfl⟩ (λ_=>by kernel_rfl) w) [(0,vs (some n) lN lC),(5,vs (some b) xN xC),(7,vi i),(54,.bool (decide (g=f/\d=e)))] pk ?_
     refine gT [(0,vs (some n) lN lC),(5,vs (some b) xN xC),(7,vi i),(54,.bool (decide (g=f/\d=e)))] sk ?_
     refine T_qe ?_
     by_cases c24:g=f/\d=e
     ·rw[if_pos c24]at h
      exact aI 54 (zX c24)<| ar 12<| T_nr 1 [4] [.bool false] hQ h
     rw[if_neg c24]at h
     exact aJ 54 (zQ c24)<| T_k<| aD<| aE<| T_rz 9<| T_ne 3 [(0,vs (some n) lN lC),(5,vs (some b) xN xC),(7,vi (zY (i+1)))]<| aW ((zY (i+1)):Int) sk h
    rw[if_neg c12]at h
    refine aJ 35 (zQ c12)<| zz 0<| aA<| aA<| aO<| aE<| ar 13<| T_nu []<| T_c (some 55) h ?_;clear h
    rintro z H9 ⟨r,rfl,h⟩
    refine⟨[(55,.bool r)],pk,?_⟩
    exact T_nr 1 [4] [.bool r] hQ h
   rw[if_neg c7]at h
   exact aI 31 (congrArg Bool.not (zZ c7))<| ar 6<| T_nr 1 [4] [.bool false] hQ h
  rw[if_neg c5]at h
  have b6:(!p)=true:=congrArg Bool.not (zZ c5)
  have b62:p=false:=zZ c5
  refine N_bd 26 (b:=(!p)) (v:=true) (by simp only[b6,b62,Bool.not_true,Bool.not_false]) ?_
  clear b6 b62
  exact T_ed 5 [1,6,26] [(31,.bool true)]<| T_tz 31<| ar 6<| T_nr 1 [4] [.bool false] hQ h
 intro hk
 refine T_n 4 [(0,vs lB lN lC),(1,vs wB wN wC),(11,.bool (decide ((lN:Int)>1000)))] ?_
 by_cases c1:(lN:Int)>1000
 ·have b2:(decide ((lN:Int)>1000))=true:=zX c1
  refine cO [(0,vs lB lN lC),(1,vs wB wN wC),(11,.bool true)] (by rw[b2]) ?_
  refine T_nd 4 [11] [(15,.bool true)]<| zq<| S_bd 15 (b:=true) (v:=((decide ((lN:Int)>1000)) || (decide ((wN:Int)>1000)))) (by simp only[b2,BL]) ?_
  exact hk
 have b2:(decide ((lN:Int)>1000))=false:=zQ c1
 refine cO [(0,vs lB lN lC),(1,vs wB wN wC),(11,.bool false)] (by rw[b2]) ?_
 refine T_nd 4 [11] [(15,.bool (decide ((wN:Int)>1000)))]<| zq<| S_bd 15 (b:=(decide ((wN:Int)>1000))) (v:=((decide ((lN:Int)>1000)) || (decide ((wN:Int)>1000)))) (by simp only[b2,BL]) ?_
 exact hk
end bO

