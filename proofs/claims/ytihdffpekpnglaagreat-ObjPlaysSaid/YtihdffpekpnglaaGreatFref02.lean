/- Printed: what each function asks, and that it is sound. -/
import Derived.Test.YtihdffpekpnglaaGreatFnsC
set_option linter.unusedSimpArgs false
set_option linter.unusedVariables false
set_option maxRecDepth 100000
set_option maxHeartbeats 1000000
noncomputable section
namespace Go.Proofs.YtihdffpekpnglaaGreat
open Go
/-! moraine/moraineref02.Same -/
namespace dP
def K0:=Func.code Tryz.f58
def K2:=cb K0
def K4:=cb K2
def K9:=ca K4
def K12:=cb K9
def K13:=ca K12
def K14:=ca K13
end dP
def dP.pt(ag:Bool)(y:zY)(u v:Nat)(ab:Bool)(l:zY)(n m:Nat)(H:zW)(R:zv):Prop:=
 ∀(b:Nat) (H1:zW),b=H.size->H1=H.push (.cells #[.bool ag,.slice y u v] 39)->
 ∀(d:Nat) (H2:zW),d=H1.size->H2=H1.push (.cells #[.bool ab,.slice l n m] 39)->
 ∃x:Bool,hat H2 (ad b)=some (.bool x)/\
 ∃ac:Bool,hat H2 (ad d)=some (.bool ac)/\
 if x=ac then(
 ∃(xB:zY) (xN xC:Nat),hat H2 ((ad b).add 1)=some (.slice xB xN xC)/\
 ∃(ak:zY) (f aj:Nat),hat H2 ((ad d).add 1)=some (.slice ak f aj)/\
 if(xN:Int)=(f:Int)then(
 ∃(al:zw) (m15:Int->zW->Nat),al 0 H2/\ ∀(i:Int) (H3:zW),al i H3->
 ∃(ah:zY) (j ai:Nat),hat H3 ((ad b).add 1)=some (.slice ah j ai)/\
 if i< (j:Int)then(
 ∃(af:zY) (r z:Nat),hat H3 ((ad b).add 1)=some (.slice af r z)/\
 ∃o:Addr,af=some o/\
 yZ i r/\
 ∃e:Int,hat H3 (o.add (Int.toNat i*1))=some (.int .u32 e)/\
 ∃(ae:zY) (q aa:Nat),hat H3 ((ad d).add 1)=some (.slice ae q aa)/\
 ∃s:Addr,ae=some s/\
 yZ i q/\
 ∃p:Int,hat H3 (s.add (Int.toNat i*1))=some (.int .u32 p)/\
 if e=p then(
 (al (zq (i+1)) H3/\m15 (zq (i+1)) H3<m15 i H3))
 else
 R (.bool false) H3)
 else
 R (.bool true) H3)
 else
 R (.bool false) H2)
 else
 R (.bool false) H2
namespace dP
theorem link{ag:Bool}{y:zY}{u v:Nat}{ab:Bool}{l:zY}{n m:Nat}{H:zW}{R:zv}(h:pt ag y u v ab l n m H R):C ag y u v ab l n m H R:=by
 refine T_en K0 38 Tryz.func58 ?_
 intro w0 Q hQ
 unfold pt zq at h
 refine T_su [(0,.agg #[.bool ag,vs y u v]),(1,.agg #[.bool ab,vs l n m])]<| ar 0<| T_nw (some 2) (λb=>vp (pa b)) (.cells #[.bool ag,vs y u v] 39) ?_
 intro b H1 e1 e2
 replace h:=h b H1 e1 e2
 refine T_pd [0] [(2,vp (pa b))]<| T_nw (some 3) (λb=>vp (pa b)) (.cells #[.bool ab,vs l n m] 39) ?_
 intro d H2 e3 e4
 replace h:=h d H2 e3 e4
 refine T_pd [1] [(3,vp (pa d))]<| T_ed 1 [] []<| T_sz<| ar 1<| T_nd 1 [] [(6,vp (pa b))] ?_
 obtain⟨x,q5,h⟩:=h
 refine T_l1 7 4 q5 [6]<| T_nd 1 [] [(8,vp (pa d))] ?_
 obtain⟨ac,q6,h⟩:=h
 refine T_l1 9 4 q6 [8]<| T_nd 2 [7,9] [(11,.bool (!(x==ac)))] ?_
 by_cases c7:x=ac
 ·rw[if_pos c7]at h
  refine N_bd 11 (congrArg Bool.not (zV c7))<| T_nd 1 [] [(12,vp (some ((ad b).add 1)))] ?_
  obtain⟨xB,xN,xC,q9,h⟩:=h
  refine T_l1 13 37 q9 [12]<| T_nd 2 [13] [(14,vi xN),(15,vp (some ((ad d).add 1)))] ?_
  obtain⟨ak,f,aj,q10,h⟩:=h
  refine T_l1 16 37 q10 [15]<| T_ed 3 [11,14,16] [(19,.bool ((xN:Int) !=(f:Int)))] ?_
  by_cases c11:(xN:Int)=(f:Int)
  ·rw[if_pos c11]at h
   refine aI 19 (bne_eq_false_iff_eq.mpr c11)<| T_kt<| T_sz<| ar 3<| T_ed 1 [19] [(5,vi 0)]<| T_bz 0 ?_
   obtain⟨al,m15,i13,i14⟩:=h
   refine dS (x:=K14) (σ:=Int) (λs_=> [(2,vp (pa b)),(3,vp (pa d)),(5,vi s_)]) (λs_ H=>al s_ H) (λs_ H=>m15 s_ H) (0:Int) (by kernel_rfl) i13 sk ?_
   rintro i H3 i15
   have h:=i14 i H3 i15
   refine T_su [(2,vp (pa b)),(3,vp (pa d)),(5,vi i)]<| T_sz<| ar 4<| T_nd 2 [] [(20,vi i),(21,vp (some ((ad b).add 1)))] ?_
   obtain⟨ah,j,ai,q16,h⟩:=h
   refine T_l1 22 37 q16 [21]<| T_ed 2 [20,22] [(24,.bool (decide (i< (j:Int))))] ?_
   by_cases c17:i< (j:Int)
   ·rw[if_pos c17]at h
    refine aH 24 (zQ c17)<| T_kt<| T_sz<| T_bz 1<| T_sz<| ll 6<| T_q1 27 (vp (some ((ad b).add 1))) [24] ?_
    obtain⟨af,r,z,q19,h⟩:=h
    refine iL (some 28) 37 q19 [27] [(28,vs af r z)]<| T_q1 29 (vi i) [] ?_
    obtain⟨o,rfl,q20,h⟩:=h
    refine Q_op (some 30) (bD 37 (vs (some o) r z) (vi i)) (vp (some (o.add (Int.toNat i*1)))) (λ_=>by kernel_rfl) (λw _=>bR (P:=Tryz.prog) (t:=37) (elem:=154) (sz:=1) (a:=o) (len:=r) (cap:=z) (k:=.i64) (i:=i) Tryz.underlying37 (λ_=>by kernel_rfl) q20.1 q20.2 w) [(2,vp (pa b)),(3,vp (pa d)),(5,vi i),(30,vp (some (o.add (Int.toNat i*1))))] pk ?_
    obtain⟨e,q21,h⟩:=h
    refine T_ql (some 31) 154 q21 [(2,vp (pa b)),(3,vp (pa d)),(5,vi i),(31,.int .u32 e)]<| T_q1 32 (vp (some ((ad d).add 1))) [] ?_
    obtain⟨ae,q,aa,q22,h⟩:=h
    refine iL (some 33) 37 q22 [32] [(33,vs ae q aa)]<| T_q1 34 (vi i) [] ?_
    obtain⟨s,rfl,q23,h⟩:=h
    refine Q_op (some 35) (bD 37 (vs (some s) q aa) (vi i)) (vp (some (s.add (Int.toNat i*1)))) (λ_=>by kernel_rfl) (λw _=>bR (P:=Tryz.prog) (t:=37) (elem:=154) (sz:=1) (a:=s) (len:=q) (cap:=aa) (k:=.i64) (i:=i) Tryz.underlying37 (λ_=>by kernel_rfl) q23.1 q23.2 w) [(2,vp (pa b)),(3,vp (pa d)),(5,vi i),(31,.int .u32 e),(35,vp (some (s.add (Int.toNat i*1))))] pk ?_
    obtain⟨p,q24,h⟩:=h
    refine T_ql (some 36) 154 q24 [(2,vp (pa b)),(3,vp (pa d)),(5,vi i),(31,.int .u32 e),(36,.int .u32 p)]<| T_q1 37 (.bool (e !=p)) [31,36]<| jp [(2,vp (pa b)),(3,vp (pa d)),(5,vi i),(37,.bool (e !=p))] sk<| T_qe ?_
    by_cases c25:e=p
    ·rw[if_pos c25]at h
     exact aI 37 (bne_eq_false_iff_eq.mpr c25)<| T_k<| aL<| aE<| T_rz 5<| T_ne 3 [(2,vp (pa b)),(3,vp (pa d)),(5,vi (zq (i+1)))]<| bG ((zq (i+1)):Int) sk h
    rw[if_neg c25]at h
    exact aH 37 (bne_iff_ne.mpr c25)<| ar 7<| T_nr 1 [4] [.bool false] hQ h
   rw[if_neg c17]at h
   exact aI 24 (zJ c17)<| zk 0<| aD<| aD<| aR<| aE<| ar 8<| T_nr 1 [4] [.bool true] hQ h
  rw[if_neg c11]at h
  exact aH 19 (bne_iff_ne.mpr c11)<| ar 2<| T_nr 1 [4] [.bool false] hQ h
 rw[if_neg c7]at h
 exact N_bd 11 (congrArg Bool.not (zK c7))<| T_ed 8 [11] [(19,.bool true)]<| T_tz 19<| ar 2<| T_nr 1 [4] [.bool false] hQ h
end dP

/-! moraine/moraineref02.Value -/
namespace bK
def K0:=Func.code Tryz.f84
def K2:=cb K0
def K4:=cb K2
def K5:=ca K4
def K8:=cb K5
def K9:=ca K8
def K10:=ca K9
def K12:=cb K10
def K17:=ca K12
def K19:=ca K17
def K21:=cb K19
def K22:=ca K21
def K23:=ca K22
end bK
def bK.pt(ac:Bool)(p:zY)(o q:Nat)(H:zW)(R:zv):Prop:=
 ∀(b:Nat) (H1:zW),b=H.size->H1=H.push (.cells #[.bool ac,.slice p o q] 39)->
 ∀(d:Nat) (H2:zW),d=H1.size->H2=H1.push (.cells #[.bool false,.slice none 0 0] 157)->
 ∃(aj:zY->Nat->Nat->zw) (m11:zY->Nat->Nat->Int->zW->Nat),aj none 0 0 0 H2/\ ∀(bB:zY) (bN:Nat) (bC:Nat) (i:Int) (H3:zW),aj bB bN bC i H3->
 ∃(xB:zY) (xN xC:Nat),hat H3 ((ad b).add 1)=some (.slice xB xN xC)/\
 if i< (xN:Int)then(
 ∃(ai:zY->Nat->Nat->zw) (m24:zY->Nat->Nat->Int->zW->Nat),ai bB bN bC 0 H3/\ ∀(e:zY) (bN_2:Nat) (bC_2:Nat) (k:Int) (H4:zW),ai e bN_2 bC_2 k H4->
 if k<32 then(
 ∃(ab:zY) (m r:Nat),hat H4 ((ad b).add 1)=some (.slice ab m r)/\
 ∃n:Addr,ab=some n/\
 yZ i m/\
 ∃x:Int,hat H4 (n.add (Int.toNat i*1))=some (.int .u32 x)/\
 (0<=k)/\
 ∀(ag:Nat) (H5:zW),ag=H4.size->H5=H4.push (.cells #[.int .u8 (IntKind.wrap .u8 (iand .u32 (ishr .u32 x k) 1))] 5)->
 bW 1 5 1 [.int .u8 0] e bN_2 bC_2 (some (ad ag)) 1 H5 (λap af H6=>
 (ai ap (bN_2+1) af (zq (k+1)) H6/\m24 ap (bN_2+1) af (zq (k+1)) H6<m24 e bN_2 bC_2 k H4)))
 else
 (aj e bN_2 bC_2 (zq (i+1)) H4/\m11 e bN_2 bC_2 (zq (i+1)) H4<m11 bB bN bC i H3))
 else
 ∃ae:Bool,hat H3 (ad b)=some (.bool ae)/\
 eN.C ae bB bN bC H3 (λv H7=> ∃(s:Bool) (l:zY) (j f:Nat),v=.agg #[.bool s,.slice l j f]/\
 (aJ H7 (ad d) 0 2)/\ ∀H8,H8=aP H7 (ad d) [.bool s,.slice l j f] 0->
 ∃(ah:Bool) (z:zY) (aa u:Nat),aG H8 (ad d) 0 [.bool ah,.slice z aa u]/\
 R (.agg #[.bool ah,.slice z aa u]) H8)
namespace bK
theorem link{ac:Bool}{p:zY}{o q:Nat}{H:zW}{R:zv}(h:pt ac p o q H R):C ac p o q H R:=by
 refine T_en K0 33 Tryz.func84 ?_
 intro w0 Q hQ
 unfold pt zq at h
 refine T_su [(0,.agg #[.bool ac,vs p o q])]<| ar 0<| T_nw (some 1) (λb=>vp (pa b)) (.cells #[.bool ac,vs p o q] 39) ?_
 intro b H1 e1 e2
 replace h:=h b H1 e1 e2
 refine⟨[(1,vp (pa b))],pk,?_⟩
 refine T_nw (some 2) (λb=>vp (pa b)) (.cells #[.bool false,vs none 0 0] 157) ?_
 intro d H2 e3 e4
 replace h:=h d H2 e3 e4
 refine T_pd [] [(2,vp (pa d))]<| T_e<| ar 1<| T_ed 1 [] [(3,vs none 0 0)]<| T_sz<| ar 2<| T_ed 1 [] [(4,vi 0)]<| T_bz 0 ?_
 obtain⟨aj,m11,i5,i6⟩:=h
 refine dS (x:=K10) (σ:=zY×Nat×Nat×Int) (λs_=> [(1,vp (pa b)),(2,vp (pa d)),(3,vs s_.1 s_.2.1 s_.2.2.1),(4,vi s_.2.2.2)]) (λs_ H=>aj s_.1 s_.2.1 s_.2.2.1 s_.2.2.2 H) (λs_ H=>m11 s_.1 s_.2.1 s_.2.2.1 s_.2.2.2 H) ((none,0,0,0):zY×Nat×Nat×Int) (by kernel_rfl) i5 sk ?_
 rintro⟨bB,bN,bC,i⟩ H3 i7
 have h:=i6 bB bN bC i H3 i7
 refine T_su [(1,vp (pa b)),(2,vp (pa d)),(3,vs bB bN bC),(4,vi i)]<| T_sz<| ar 3<| T_nd 2 [] [(6,vi i),(7,vp (some ((ad b).add 1)))] ?_
 obtain⟨xB,xN,xC,q8,h⟩:=h
 refine T_l1 8 37 q8 [7]<| T_ed 2 [6,8] [(10,.bool (decide (i< (xN:Int))))] ?_
 by_cases c9:i< (xN:Int)
 ·rw[if_pos c9]at h
  refine aH 10 (zQ c9)<| T_kt<| T_sz<| T_bz 1<| ar 5<| T_ed 1 [10] [(5,vi 0)]<| T_bz 2 ?_
  obtain⟨ai,m24,i11,i12⟩:=h
  refine dS (x:=K23) (σ:=zY×Nat×Nat×Int) (λs_=> [(1,vp (pa b)),(2,vp (pa d)),(3,vs s_.1 s_.2.1 s_.2.2.1),(4,vi i),(5,vi s_.2.2.2)]) (λs_ H=>ai s_.1 s_.2.1 s_.2.2.1 s_.2.2.2 H) (λs_ H=>m24 s_.1 s_.2.1 s_.2.2.1 s_.2.2.2 H) ((bB,bN,bC,0):zY×Nat×Nat×Int) (by kernel_rfl) i11 sk ?_
  rintro⟨e,bN_2,bC_2,k⟩ H4 i13
  have h:=i12 e bN_2 bC_2 k H4 i13
  refine T_su [(1,vp (pa b)),(2,vp (pa d)),(3,vs e bN_2 bC_2),(4,vi i),(5,vi k)]<| T_sz<| ar 6<| T_ed 2 [] [(14,.bool (decide (k<32)))] ?_
  by_cases c14:k<32
  ·rw[if_pos c14]at h
   refine aH 14 (zQ c14)<| T_kt<| T_sz<| T_bz 3<| T_rz 8<| T_nd 2 [3,14] [(17,vs e bN_2 bC_2),(18,vp (some ((ad b).add 1)))] ?_
   obtain⟨ab,m,r,q16,h⟩:=h
   refine T_l1 19 37 q16 [18]<| T_nd 1 [] [(20,vi i)] ?_
   obtain⟨n,rfl,q17,h⟩:=h
   refine T_xd (some 21) 37 154 1 n m r .i64 i Tryz.underlying37 q17.1 q17.2 [19,20] [(21,vp (some (n.add (Int.toNat i*1))))] ?_
   obtain⟨x,q18,h⟩:=h
   refine T_l1 22 154 q18 [21]<| T_nd 1 [] [(23,vi k)] ?_
   obtain⟨q19,h⟩:=h
   refine T_v1 24 (binN .shr 154 (.int .u32 x) (vi k)) (.int .u32 (ishr .u32 x k)) (λw _=>qC (P:=Tryz.prog) (t:=154) (k:=.u32) (k':=.i64) (x:=x) (y:=k) q19 w) [22,23]<| T_nd 2 [24] [(26,.int .u8 (IntKind.wrap .u8 (iand .u32 (ishr .u32 x k) 1)))]<| T_nw (some 27) (λb=>vs (pa b) 1 1) (.cells #[.int .u8 (IntKind.wrap .u8 (iand .u32 (ishr .u32 x k) 1))] 5) ?_
   intro ag H5 e20 e21
   replace h:=h ag H5 e20 e21
   refine T_pd [26] [(27,vs (pa ag) 1 1)]<| N_op (some 28) (cS #[155,155] 155 #[vs e bN_2 bC_2,vs (pa ag) 1 1]) _ (λ_=>by kernel_rfl) (bP (T:=5) (sz:=1) (bytes:=1) (zero:=(.int .u8 0:Value)) Tryz.underlying155 Tryz.underlying155 rfl (show Tryz.prog.info? 5=some Tryz.t5 from by kernel_rfl) (by kernel_rfl) (by kernel_rfl) (by decide) (by kernel_rfl) (by first | exact h | (simpa only[Value.cells,List.toList_toArray]using h))) ?_;clear h
   rintro _ H6 ⟨ap,af,rfl,h⟩
   exact T_pd [17,27] [(28,vs ap (bN_2+1) af)]<| T_nd 1 [28] [(3,vs ap (bN_2+1) af)]<| zx<| aL<| aE<| T_rz 7<| T_ed 3 [5] [(5,vi (zq (k+1)))]<| bG ((ap,(bN_2+1),af,(zq (k+1))):zY×Nat×Nat×Int) sk h
  rw[if_neg c14]at h
  exact aI 14 (zJ c14)<| zk 2<| aD<| aD<| aR<| aL<| aE<| T_rz 4<| T_ed 3 [4,5,14] [(4,vi (zq (i+1)))]<| bG ((e,bN_2,bC_2,(zq (i+1))):zY×Nat×Nat×Int) sk h
 rw[if_neg c9]at h
 refine aI 10 (zJ c9)<| zk 0<| aD<| aD<| aR<| aE<| ar 9<| T_nd 1 [1,4,10] [(29,vp (pa b))] ?_
 obtain⟨ae,q22,h⟩:=h
 refine T_l1 30 4 q22 [29]<| T_nd 1 [3] [(31,vs bB bN bC)]<| T_c (some 32) h ?_;clear h
 rintro v H7 ⟨s,l,j,f,rfl,h⟩
 refine T_pd [30,31] [(32,.agg #[.bool s,vs l j f])] ?_
 obtain⟨q24,h⟩:=h
 refine bX 157 [.bool s,vs l j f] q24 ?_
 intro H8 e23
 replace h:=h H8 e23
 refine T_pd [32] []<| T_e<| zz ?_
 show At _ _ _ _ _ (Q .ret)
 obtain⟨ah,z,aa,u,q25,h⟩:=h
 exact cP (fn:=Tryz.f84) [.agg #[.bool ah,vs z aa u]] hQ (show cK _ _ _ [.cell 2 157] _ from .cell (by kernel_rfl) (aQ (λ_=>by kernel_rfl) (λ_=>by kernel_rfl) q25) (.nil)) h
end bK

/-! moraine/moraineref02.Num -/
namespace cQ
def K0:=Func.code Tryz.f85
def K2:=cb K0
def K4:=cb K2
def K12:=cb K4
def K13:=ca K12
def K16:=cb K13
def K17:=ca K16
def K18:=ca K17
def K20:=cb K18
def K25:=ca K20
def K27:=ca K25
def K29:=cb K27
def K35:=cb K29
def K36:=ca K35
end cQ
def cQ.pt(aq:Bool)(v:zY)(z u:Nat)(H:zW)(R:zv):Prop:=
 ∀(b:Nat) (H1:zW),b=H.size->H1=H.push (.cells #[.bool aq,.slice v z u] 157)->
 ∀(e:Nat) (H2:zW),e=H1.size->H2=H1.push (.cells #[.bool false,.slice none 0 0] 39)->
 ∃(xB:zY) (xN xC:Nat),hat H2 ((ad b).add 1)=some (.slice xB xN xC)/\
 if(xN:Int)>1536 then(
 (aJ H2 (ad e) 0 2)/\ ∀H3,H3=aP H2 (ad e) [.bool false,.slice none 0 0] 0->
 ∃(a0:Bool) (aw:zY) (au av:Nat),aG H3 (ad e) 0 [.bool a0,.slice aw au av]/\
 R (.tuple #[.agg #[.bool a0,.slice aw au av],.int .i64 6]) H3)
 else
 ∃x:Bool,hat H2 (ad b)=some (.bool x)/\
 ∀(d:Nat) (H4:zW),d=H2.size->H4=H2.push (.cells #[.bool false,.slice none 0 0] 39)->
 (aJ H4 (ad d) 0 2)/\ ∀H5,H5=aP H4 (ad d) [.bool x,.slice none 0 0] 0->
 ∃(ay:zw) (m19:Int->zW->Nat),ay 0 H5/\ ∀(i:Int) (H6:zW),ay i H6->
 ∃(a2:zY) (aa a1:Nat),hat H6 ((ad b).add 1)=some (.slice a2 aa a1)/\
 if i< (aa:Int)then(
 ∃J:zW->Prop,(
 if(Int.tmod i 32)=0 then(
 ∃(al:zY) (n ak:Nat),hat H6 ((ad d).add 1)=some (.slice al n ak)/\
 ∀(az:Nat) (H9:zW),az=H6.size->H9=H6.push (.cells #[.int .u32 0] 154)->
 bW 1 154 4 [.int .u32 0] al n ak (some (ad az)) 1 H9 (λap ax a6=>
 (aJ a6 ((ad d).add 1) 0 1)/\ ∀a7,a7=aP a6 ((ad d).add 1) [.slice ap (n+1) ax] 0->
 J a7))
 else
 J H6)/\ ∀(H7:zW),J H7->
 ∃(ao:zY) (ac aj:Nat),hat H7 ((ad b).add 1)=some (.slice ao ac aj)/\
 ∃af:Addr,ao=some af/\
 yZ i ac/\
 ∃an:Int,hat H7 (af.add (Int.toNat i*1))=some (.int .u8 an)/\
 if an=1 then(
 ∃(a5:zY) (j l:Nat),hat H7 ((ad d).add 1)=some (.slice a5 j l)/\
 ∃(a4:zY) (s ab:Nat),hat H7 ((ad d).add 1)=some (.slice a4 s ab)/\
 ∃m:Addr,a4=some m/\
 ((0:Int)<=(zq (Int.tdiv i 32))/\(zq (Int.tdiv i 32))< (s:Int))/\
 ∃o:Int,hat H7 (m.add (Int.toNat (zq (Int.tdiv i 32))*1))=some (.int .u32 o)/\
 (0<=(Int.tmod i 32))/\
 ∃f:Addr,a5=some f/\
 ((0:Int)<=(zq (Int.tdiv i 32))/\(zq (Int.tdiv i 32))< (j:Int))/\
 (aJ H7 (f.add (Int.toNat (zq (Int.tdiv i 32))*1)) 0 1)/\ ∀H8,H8=aP H7 (f.add (Int.toNat (zq (Int.tdiv i 32))*1)) [.int .u32 (ior .u32 o (ishl .u32 1 (Int.tmod i 32)))] 0->
 (ay (zq (i+1)) H8/\m19 (zq (i+1)) H8<m19 i H6))
 else
 (ay (zq (i+1)) H7/\m19 (zq (i+1)) H7<m19 i H6))
 else
 ∃(ae:Bool) (r:zY) (p q:Nat),aG H6 (ad d) 0 [.bool ae,.slice r p q]/\
 (aJ H6 (ad e) 0 2)/\ ∀a3,a3=aP H6 (ad e) [.bool ae,.slice r p q] 0->
 ∃(am:Bool) (ai:zY) (ah ag:Nat),aG a3 (ad e) 0 [.bool am,.slice ai ah ag]/\
 R (.tuple #[.agg #[.bool am,.slice ai ah ag],.int .i64 0]) a3
namespace cQ
theorem link{aq:Bool}{v:zY}{z u:Nat}{H:zW}{R:zv}(h:pt aq v z u H R):C aq v z u H R:=by
 refine T_en K0 51 Tryz.func85 ?_
 intro w0 Q hQ
 unfold pt zq at h
 refine T_su [(0,.agg #[.bool aq,vs v z u])]<| ar 0<| T_nw (some 1) (λb=>vp (pa b)) (.cells #[.bool aq,vs v z u] 157) ?_
 intro b H1 e1 e2
 replace h:=h b H1 e1 e2
 refine⟨[(1,vp (pa b))],pk,?_⟩
 refine T_nw (some 2) (λb=>vp (pa b)) (.cells #[.bool false,vs none 0 0] 39) ?_
 intro e H2 e3 e4
 replace h:=h e H2 e3 e4
 refine T_pd [] [(2,vp (pa e))]<| T_ed 1 [] []<| T_sz<| ar 1<| T_nd 1 [] [(6,vp (some ((ad b).add 1)))] ?_
 obtain⟨xB,xN,xC,q5,h⟩:=h
 refine T_l1 7 155 q5 [6]<| T_ed 2 [7] [(9,.bool (decide ((xN:Int)>1536)))] ?_
 by_cases c6:(xN:Int)>1536
 ·rw[if_pos c6]at h
  refine aH 9 (zQ c6)<| ar 2<| T_nd 1 [1,9] [(10,.agg #[.bool false,vs none 0 0])] ?_
  obtain⟨q9,h⟩:=h
  refine bX 39 [.bool false,vs none 0 0] q9 ?_
  intro H3 e8
  replace h:=h H3 e8
  refine T_pd [10] []<| T_ed 1 [] [(3,vi 6)]<| zz ?_
  show At _ _ _ _ _ (Q .ret)
  obtain⟨a0,aw,au,av,q10,h⟩:=h
  exact cP (fn:=Tryz.f85) [.agg #[.bool a0,vs aw au av],vi 6] hQ (show cK _ _ _ [.cell 2 39,.tmp 3] _ from .cell (by kernel_rfl) (aQ (λ_=>by kernel_rfl) (λ_=>by kernel_rfl) q10) (.tmp (by kernel_rfl) (.nil))) h
 rw[if_neg c6]at h
 refine aI 9 (zJ c6)<| T_kt<| ar 3<| T_nd 1 [9] [(11,vp (pa b))] ?_
 obtain⟨x,q11,h⟩:=h
 refine T_l1 12 4 q11 [11]<| T_nd 1 [12] [(13,.agg #[.bool x,vs none 0 0])]<| T_nw (some 4) (λb=>vp (pa b)) (.cells #[.bool false,vs none 0 0] 39) ?_
 intro d H4 e12 e13
 replace h:=h d H4 e12 e13
 refine T_pd [] [(4,vp (pa d))] ?_
 obtain⟨q15,h⟩:=h
 refine bX 39 [.bool x,vs none 0 0] q15 ?_
 intro H5 e14
 replace h:=h H5 e14
 refine T_pd [13] []<| T_e<| T_sz<| ar 4<| T_ed 1 [] [(5,vi 0)]<| T_bz 0 ?_
 obtain⟨ay,m19,i16,i17⟩:=h
 refine dS (x:=K18) (σ:=Int) (λs_=> [(1,vp (pa b)),(2,vp (pa e)),(4,vp (pa d)),(5,vi s_)]) (λs_ H=>ay s_ H) (λs_ H=>m19 s_ H) (0:Int) (by kernel_rfl) i16 sk ?_
 rintro i H6 i18
 have h:=i17 i H6 i18
 refine T_su [(1,vp (pa b)),(2,vp (pa e)),(4,vp (pa d)),(5,vi i)]<| T_sz<| ar 5<| T_nd 2 [] [(14,vi i),(15,vp (some ((ad b).add 1)))] ?_
 obtain⟨a2,aa,a1,q19,h⟩:=h
 refine T_l1 16 155 q19 [15]<| T_ed 2 [14,16] [(18,.bool (decide (i< (aa:Int))))] ?_
 by_cases c20:i< (aa:Int)
 ·rw[if_pos c20]at h
  refine aH 18 (zQ c20)<| T_kt<| T_sz<| T_bz 1<| T_sz<| ar 7<| T_ne 3 [(1,vp (pa b)),(2,vp (pa e)),(4,vp (pa d)),(5,vi i),(23,.bool ((Int.tmod i 32)==0))] ?_
  obtain⟨J,h,j23⟩:=h
  refine kb (σ:=Unit) (λs_=> [(1,vp (pa b)),(2,vp (pa e)),(4,vp (pa d)),(5,vi i)]) (λs_ H=>J H) ?_ ?_
  ·rintro _ H7 j24
   replace h:=j23 H7 j24
   refine T_su [(1,vp (pa b)),(2,vp (pa e)),(4,vp (pa d)),(5,vi i)]<| aE<| ar 9<| T_nd 1 [] [(29,vp (some ((ad b).add 1)))] ?_
   obtain⟨ao,ac,aj,q25,h⟩:=h
   refine T_l1 30 155 q25 [29]<| T_nd 1 [] [(31,vi i)] ?_
   obtain⟨af,rfl,q26,h⟩:=h
   refine T_xd (some 32) 155 5 1 af ac aj .i64 i Tryz.underlying155 q26.1 q26.2 [30,31] [(32,vp (some (af.add (Int.toNat i*1))))] ?_
   obtain⟨an,q27,h⟩:=h
   refine T_l1 33 5 q27 [32]<| T_ed 1 [33] [(34,.bool (an==1))] ?_
   by_cases c28:an=1
   ·rw[if_pos c28]at h
    refine aH 34 (zV c28) ?_
    obtain⟨a5,j,l,q30,a4,s,ab,q31,m,rfl,q32,o,q33,q34,f,rfl,q35,h⟩:=h
    refine yq 10 (Code.ops K36) [(15,((ad d).add 1),[vs (some f) j l]),(15,((ad d).add 1),[vs (some m) s ab]),(15,(m.add (Int.toNat (zq (Int.tdiv i 32))*1)),[.int .u32 o])] 16 (bv 16 0) (show aK _ _ _ from⟨⟨q30,trivial⟩,⟨q31,trivial⟩,⟨q33,trivial⟩,trivial⟩)<| T_gp 0 (some 35) (vp (some ((ad d).add 1))) (bv 16 1) [(1,vp (pa b)),(2,vp (pa e)),(4,vp (pa d)),(5,vi i),(35,vp (some ((ad d).add 1)))]<| T_g1 1 36 (vs (some f) j l) (bv 16 3) [35] (aT 37 (vp (some ((ad d).add 1)))) (yY 15 yX)<| aF 2 37 (vi i) (bv 16 7) []<| aF 3 38 (vi (zq (Int.tdiv i 32))) (bv 16 15) [37]<| aF 4 39 (vp (some ((ad d).add 1))) (bv 16 31) []<| T_g1 5 40 (vs (some m) s ab) (bv 16 63) [39] (aT 37 (vp (some ((ad d).add 1)))) (yY 15 yQ)<| aF 6 41 (vi i) (bv 16 127) []<| aF 7 42 (vi (zq (Int.tdiv i 32))) (bv 16 255) [41]<| T_g1 8 43 (vp (some (m.add (Int.toNat (zq (Int.tdiv i 32))*1)))) (bv 16 511) [40,42] (bD 37 (vs (some m) s ab) (vi (zq (Int.tdiv i 32)))) (λ_ w _ _ _=>bR (P:=Tryz.prog) (t:=37) (elem:=154) (sz:=1) (a:=m) (len:=s) (cap:=ab) (k:=.i64) (i:=(zq (Int.tdiv i 32))) Tryz.underlying37 (λ_=>by kernel_rfl) q32.1 q32.2 w)<| T_g1 9 44 (.int .u32 o) (bv 16 1023) [43] (aT 154 (vp (some (m.add (Int.toNat (zq (Int.tdiv i 32))*1))))) (yY 15 yJ)<| aF 10 45 (vi i) (bv 16 2047) []<| aF 11 46 (vi (Int.tmod i 32)) (bv 16 4095) [45]<| T_g1 12 47 (.int .u32 (ishl .u32 1 (Int.tmod i 32))) (bv 16 8191) [46] (binN .shl 154 (.int .u32 1) (vi (Int.tmod i 32))) (λ_ w _ _ _=>mp (P:=Tryz.prog) (t:=154) (k:=.u32) (k':=.i64) (x:=1) (y:=(Int.tmod i 32)) q34 w)<| aF 13 48 (.int .u32 (ior .u32 o (ishl .u32 1 (Int.tmod i 32)))) (bv 16 16383) [44,47]<| T_g1 14 49 (vp (some (f.add (Int.toNat (zq (Int.tdiv i 32))*1)))) (bv 16 32767) [36,38] (bD 37 (vs (some f) j l) (vi (zq (Int.tdiv i 32)))) (λ_ w _ _ _=>bR (P:=Tryz.prog) (t:=37) (elem:=154) (sz:=1) (a:=f) (len:=j) (cap:=l) (k:=.i64) (i:=(zq (Int.tdiv i 32))) Tryz.underlying37 (λ_=>by kernel_rfl) q35.1 q35.2 w) ?_
    obtain⟨q37,h⟩:=h
    refine iS 15 none (bv 16 65535) (jg 154 (vp (some (f.add (Int.toNat (zq (Int.tdiv i 32))*1)))) (.int .u32 (ior .u32 o (ishl .u32 1 (Int.tmod i 32))))) (λHz=>Hz=aP H7 (f.add (Int.toNat (zq (Int.tdiv i 32))*1)) [.int .u32 (ior .u32 o (ishl .u32 1 (Int.tmod i 32)))] 0) (by kernel_rfl) (λ_=>by kernel_rfl) (iW [.int .u32 (ior .u32 o (ishl .u32 1 (Int.tmod i 32)))] 1 (by kernel_rfl) (by kernel_rfl) (λ_=>by kernel_rfl) (by kernel_rfl) q37) (by kernel_rfl) ?_
    intro H8 e36
    replace h:=h H8 e36
    refine⟨[(1,vp (pa b)),(2,vp (pa e)),(4,vp (pa d)),(5,vi i)],pk,(show aK _ _ _ from⟨trivial,trivial,trivial,trivial⟩),?_⟩
    refine eI [(1,vp (pa b)),(2,vp (pa e)),(4,vp (pa d)),(5,vi i)] sk ?_
    exact yz<| aL<| aE<| T_rz 6<| T_ne 3 [(1,vp (pa b)),(2,vp (pa e)),(4,vp (pa d)),(5,vi (zq (i+1)))]<| bG ((zq (i+1)):Int) sk h
   rw[if_neg c28]at h
   exact aI 34 (zK c28)<| T_k<| aL<| aE<| T_rz 6<| T_ed 3 [5,34] [(5,vi (zq (i+1)))]<| bG ((zq (i+1)):Int) sk h
  by_cases c38:(Int.tmod i 32)=0
  ·rw[if_pos c38]at h
   have b39:((Int.tmod i 32)==0)=true:=zV c38
   refine eT [(1,vp (pa b)),(2,vp (pa e)),(4,vp (pa d)),(5,vi i),(23,.bool true)] (by simp only[b39,Bool.not_true,Bool.not_false]) ?_
   clear b39
   refine T_tz 23<| T_rz 8<| T_nd 1 [23] [(24,vp (some ((ad d).add 1)))] ?_
   obtain⟨al,n,ak,q40,h⟩:=h
   refine T_l1 25 37 q40 [24]<| T_nw (some 26) (λb=>vs (pa b) 1 1) (.cells #[.int .u32 0] 154) ?_
   intro az H9 e41 e42
   replace h:=h az H9 e41 e42
   refine T_pd [] [(26,vs (pa az) 1 1)]<| N_op (some 27) (cS #[37,37] 37 #[vs al n ak,vs (pa az) 1 1]) _ (λ_=>by kernel_rfl) (bP (T:=154) (sz:=1) (bytes:=4) (zero:=(.int .u32 0:Value)) Tryz.underlying37 Tryz.underlying37 rfl (show Tryz.prog.info? 154=some Tryz.t154 from by kernel_rfl) (by kernel_rfl) (by kernel_rfl) (by decide) (by kernel_rfl) (by first | exact h | (simpa only[Value.cells,List.toList_toArray]using h))) ?_;clear h
   rintro _ a6 ⟨ap,ax,rfl,h⟩
   refine T_pd [25,26] [(27,vs ap (n+1) ax)]<| T_nd 1 [] [(28,vp (some ((ad d).add 1)))] ?_
   obtain⟨q44,h⟩:=h
   refine je 37 (vs ap (n+1) ax) q44 ?_
   intro a7 e43
   replace h:=h a7 e43
   exact T_pd [27,28] []<| T_e<| fH (():Unit) sk h
  rw[if_neg c38]at h
  have b39:((Int.tmod i 32)==0)=false:=zK c38
  refine eT [(1,vp (pa b)),(2,vp (pa e)),(4,vp (pa d)),(5,vi i),(23,.bool false)] (by simp only[b39,Bool.not_true,Bool.not_false]) ?_
  clear b39
  exact T_fz 23<| T_kt<| fH (():Unit) sk h
 rw[if_neg c20]at h
 refine aI 18 (zJ c20)<| zk 0<| aD<| aD<| aR<| aE<| ar 11<| T_ud [1,5,18] [] ?_
 obtain⟨ae,r,p,q,q45,h⟩:=h
 refine T_lr 50 39 q45 [4] ?_
 obtain⟨q47,h⟩:=h
 refine bX 39 [.bool ae,vs r p q] q47 ?_
 intro a3 e46
 replace h:=h a3 e46
 refine T_pd [50] []<| T_ed 1 [] [(3,vi 0)]<| zz ?_
 show At _ _ _ _ _ (Q .ret)
 obtain⟨am,ai,ah,ag,q48,h⟩:=h
 exact cP (fn:=Tryz.f85) [.agg #[.bool am,vs ai ah ag],vi 0] hQ (show cK _ _ _ [.cell 2 39,.tmp 3] _ from .cell (by kernel_rfl) (aQ (λ_=>by kernel_rfl) (λ_=>by kernel_rfl) q48) (.tmp (by kernel_rfl) (.nil))) h
end cQ

/-! moraine/moraineref02.Cmp -/
namespace eG
def K0:=Func.code Tryz.f86
def K2:=cb K0
def K4:=cb K2
def K9:=ca K4
end eG
def eG.pt(ab:Bool)(s:zY)(r q:Nat)(z:Bool)(p:zY)(n o:Nat)(H:zW)(R:zv):Prop:=
 ∀(b:Nat) (H1:zW),b=H.size->H1=H.push (.cells #[.bool ab,.slice s r q] 157)->
 ∀(a:Nat) (H2:zW),a=H1.size->H2=H1.push (.cells #[.bool z,.slice p n o] 157)->
 ∃x:Bool,hat H2 (ad b)=some (.bool x)/\
 ∃aa:Bool,hat H2 (ad a)=some (.bool aa)/\
 if x=aa then(
 ∃(xB:zY) (xN xC:Nat),hat H2 ((ad b).add 1)=some (.slice xB xN xC)/\
 ∃(m:zY) (f l:Nat),hat H2 ((ad a).add 1)=some (.slice m f l)/\
 ∃(i:zY) (j k:Nat),hat H2 ((ad a).add 1)=some (.slice i j k)/\
 ∃(u:zY) (y t:Nat),hat H2 ((ad b).add 1)=some (.slice u y t)/\
 dQ.C xB xN xC m f l H2 (λv H3=> ∃d:Bool,v=.bool d/\aG H3 ((ad a).add 1) 0 [.slice i j k]/\aG H3 ((ad b).add 1) 0 [.slice u y t]/\
 dQ.C i j k u y t H3 (λaf H4=> ∃e:Bool,af=.bool e/\
 ∃ac:Bool,hat H4 (ad b)=some (.bool ac)/\
 if ac=true then(
 if e=true then(
 R (.int .i64 (-1)) H4)
 else
 if d=true then(
 R (.int .i64 1) H4)
 else
 R (.int .i64 0) H4)
 else
 if d=true then(
 R (.int .i64 (-1)) H4)
 else
 if e=true then(
 R (.int .i64 1) H4)
 else
 R (.int .i64 0) H4)))
 else
 ∃ae:Bool,hat H2 (ad b)=some (.bool ae)/\
 if ae=true then(
 R (.int .i64 (-1)) H2)
 else
 R (.int .i64 1) H2
namespace eG
theorem link{ab:Bool}{s:zY}{r q:Nat}{z:Bool}{p:zY}{n o:Nat}{H:zW}{R:zv}(h:pt ab s r q z p n o H R):C ab s r q z p n o H R:=by
 refine T_en K0 30 Tryz.func86 ?_
 intro w0 Q hQ
 unfold pt at h
 refine T_su [(0,.agg #[.bool ab,vs s r q]),(1,.agg #[.bool z,vs p n o])]<| ar 0<| T_nw (some 2) (λb=>vp (pa b)) (.cells #[.bool ab,vs s r q] 157) ?_
 intro b H1 e1 e2
 replace h:=h b H1 e1 e2
 refine T_pd [0] [(2,vp (pa b))]<| T_nw (some 3) (λb=>vp (pa b)) (.cells #[.bool z,vs p n o] 157) ?_
 intro a H2 e3 e4
 replace h:=h a H2 e3 e4
 refine T_pd [1] [(3,vp (pa a))]<| T_ed 1 [] []<| T_sz<| ar 1<| T_nd 1 [] [(7,vp (pa b))] ?_
 obtain⟨x,q5,h⟩:=h
 refine T_l1 8 4 q5 [7]<| T_nd 1 [] [(9,vp (pa a))] ?_
 obtain⟨aa,q6,h⟩:=h
 refine T_l1 10 4 q6 [9]<| T_ed 1 [8,10] [(11,.bool (!(x==aa)))] ?_
 by_cases c7:x=aa
 ·rw[if_pos c7]at h
  refine aI 11 (congrArg Bool.not (zV c7))<| T_kt<| T_sz ?_
  obtain⟨xB,xN,xC,q9,m,f,l,q10,i,j,k,q11,u,y,t,q12,h⟩:=h
  refine yq 5 (Code.ops K9) [(4,((ad b).add 1),[vs xB xN xC]),(4,((ad a).add 1),[vs m f l]),(9,((ad a).add 1),[vs i j k]),(9,((ad b).add 1),[vs u y t])] 12 (bv 12 0) (show aK _ _ _ from⟨⟨q9,trivial⟩,⟨q10,trivial⟩,⟨q11,trivial⟩,⟨q12,trivial⟩,trivial⟩)<| T_gp 0 (some 14) (vp (some ((ad b).add 1))) (bv 12 1) [(2,vp (pa b)),(3,vp (pa a)),(14,vp (some ((ad b).add 1)))]<| T_g1 1 15 (vs xB xN xC) (bv 12 3) [14] (aT 155 (vp (some ((ad b).add 1)))) (yY 4 yX)<| aF 2 16 (vp (some ((ad a).add 1))) (bv 12 7) []<| T_g1 3 17 (vs m f l) (bv 12 15) [16] (aT 155 (vp (some ((ad a).add 1)))) (yY 4 yQ)<| aF 5 19 (vp (some ((ad a).add 1))) (bv 12 47) [3]<| T_g1 6 20 (vs i j k) (bv 12 111) [19] (aT 155 (vp (some ((ad a).add 1)))) (yY 9 yJ)<| aF 7 21 (vp (some ((ad b).add 1))) (bv 12 239) []<| T_g1 8 22 (vs u y t) (bv 12 495) [21] (aT 155 (vp (some ((ad b).add 1)))) (yY 9 yK)<| yx 4 (some 18) (bv 12 511) 126 #[vs xB xN xC,vs m f l] h ?_;clear h
  rintro v H3 ⟨d,rfl,f13,f14,h⟩
  refine⟨[(2,vp (pa b)),(18,.bool d),(20,vs i j k),(22,vs u y t)],pk,(show aK _ _ _ from⟨trivial,trivial,f13,f14,trivial⟩),?_⟩
  refine yx 9 (some 23) (bv 12 1023) 126 #[vs i j k,vs u y t] h ?_;clear h
  rintro af H4 ⟨e,rfl,h⟩
  refine⟨[(2,vp (pa b)),(18,.bool d),(23,.bool e)],pk,(show aK _ _ _ from⟨trivial,trivial,trivial,trivial,trivial⟩),?_⟩
  refine T_g 10 (some 5) (.bool d) (bv 12 2047) [(2,vp (pa b)),(5,.bool d),(23,.bool e)] (pure (.value (.bool d)):Sem Next) (λ_ _ _ _ _=>rfl)<| T_g1 11 6 (.bool e) (bv 12 4095) [23] (pure (.value (.bool e)):Sem Next) (λ_ _ _ _ _=>rfl)<| eI [(2,vp (pa b)),(5,.bool d),(6,.bool e)] sk<| yz<| aE<| T_sz<| ar 6<| T_n 1 [(5,.bool d),(6,.bool e),(24,vp (pa b))] ?_
  obtain⟨ac,q15,h⟩:=h
  refine T_l1 25 4 q15 [24]<| T_e ?_
  by_cases c16:ac=true
  ·rw[if_pos c16]at h
   refine aH 25 c16<| T_rz 7<| T_ne 4 [(5,.bool e),(6,.bool d)]<| T_sz<| ar 8<| T_ed 1 [5] [(28,.bool e)] ?_
   by_cases c18:e=true
   ·rw[if_pos c18]at h
    exact aH 28 c18<| ar 9<| T_nr 1 [4] [vi (-1)] hQ h
   rw[if_neg c18]at h
   refine aI 28 (zZ c18)<| T_kt<| T_sz<| ar 10<| T_ne 1 [(29,.bool d)] ?_
   by_cases c20:d=true
   ·rw[if_pos c20]at h
    exact aH 29 c20<| ar 11<| T_nr 1 [4] [vi 1] hQ h
   rw[if_neg c20]at h
   exact aI 29 (zZ c20)<| T_kt<| ar 12<| T_nr 1 [4] [vi 0] hQ h
  rw[if_neg c16]at h
  refine aI 25 (zZ c16)<| T_kt<| T_sz<| ar 8<| T_ed 1 [5,25] [(28,.bool d)] ?_
  by_cases c22:d=true
  ·rw[if_pos c22]at h
   exact aH 28 c22<| ar 9<| T_nr 1 [4] [vi (-1)] hQ h
  rw[if_neg c22]at h
  refine aI 28 (zZ c22)<| T_kt<| T_sz<| ar 10<| T_ne 1 [(29,.bool e)] ?_
  by_cases c24:e=true
  ·rw[if_pos c24]at h
   exact aH 29 c24<| ar 11<| T_nr 1 [4] [vi 1] hQ h
  rw[if_neg c24]at h
  exact aI 29 (zZ c24)<| T_kt<| ar 12<| T_nr 1 [4] [vi 0] hQ h
 rw[if_neg c7]at h
 refine aH 11 (congrArg Bool.not (zK c7))<| T_sz<| ar 2<| T_n 1 [(12,vp (pa b))] ?_
 obtain⟨ae,q26,h⟩:=h
 refine T_l1 13 4 q26 [12]<| T_e ?_
 by_cases c27:ae=true
 ·rw[if_pos c27]at h
  exact aH 13 c27<| ar 3<| T_nr 1 [4] [vi (-1)] hQ h
 rw[if_neg c27]at h
 exact aI 13 (zZ c27)<| T_kt<| ar 4<| T_nr 1 [4] [vi 1] hQ h
end eG

/-! moraine/moraineref02.Of -/
namespace eB
def K0:=Func.code Tryz.f87
end eB
def eB.pt(x:Int)(H:zW)(R:zv):Prop:=
 ∀(b:Nat) (H1:zW),b=H.size->H1=H.push (.cells #[.bool false,.slice none 0 0] 39)->
 if x<0 then(
 ∀(au:Nat) (H2:zW),au=H1.size->H2=H1.push (.cells #[.int .u32 (IntKind.wrap .u32 (IntKind.wrap .u64 (0-(IntKind.wrap .u64 x)))),.int .u32 (IntKind.wrap .u32 (ishr .u64 (IntKind.wrap .u64 (0-(IntKind.wrap .u64 x))) 32))] 154)->
 bK.C (decide (x<0)) (some (ad au)) 2 2 H2 (λv H3=> ∃(aq:Bool) (ag:zY) (af ac:Nat),v=.agg #[.bool aq,.slice ag af ac]/\
 cQ.C aq ag af ac H3 (λaz H4=> ∃(q:Bool) (m:zY) (n l:Nat) (rb:Int),az=.tuple #[.agg #[.bool q,.slice m n l],.int .i64 rb]/\
 ∀(aa:Nat) (H5:zW),aa=H4.size->H5=H4.push (.cells #[.bool false,.slice none 0 0] 39)->
 (aJ H5 (ad aa) 0 2)/\ ∀H6,H6=aP H5 (ad aa) [.bool q,.slice m n l] 0->
 ∃(p:Bool) (z:zY) (u y:Nat),aG H6 (ad aa) 0 [.bool p,.slice z u y]/\
 (aJ H6 (ad b) 0 2)/\ ∀H7,H7=aP H6 (ad b) [.bool p,.slice z u y] 0->
 ∃(aw:Bool) (am:zY) (an ao:Nat),aG H7 (ad b) 0 [.bool aw,.slice am an ao]/\
 R (.agg #[.bool aw,.slice am an ao]) H7)))
 else
 ∀(av:Nat) (H8:zW),av=H1.size->H8=H1.push (.cells #[.int .u32 (IntKind.wrap .u32 (IntKind.wrap .u64 x)),.int .u32 (IntKind.wrap .u32 (ishr .u64 (IntKind.wrap .u64 x) 32))] 154)->
 bK.C (decide (x<0)) (some (ad av)) 2 2 H8 (λa1 H9=> ∃(ae:Bool) (s:zY) (r t:Nat),a1=.agg #[.bool ae,.slice s r t]/\
 cQ.C ae s r t H9 (λa0 ay=> ∃(f:Bool) (a:zY) (d e:Nat) (al:Int),a0=.tuple #[.agg #[.bool f,.slice a d e],.int .i64 al]/\
 ∀(ab:Nat) (H11:zW),ab=ay.size->H11=ay.push (.cells #[.bool false,.slice none 0 0] 39)->
 (aJ H11 (ad ab) 0 2)/\ ∀ap,ap=aP H11 (ad ab) [.bool f,.slice a d e] 0->
 ∃(o:Bool) (j:zY) (i k:Nat),aG ap (ad ab) 0 [.bool o,.slice j i k]/\
 (aJ ap (ad b) 0 2)/\ ∀ax,ax=aP ap (ad b) [.bool o,.slice j i k] 0->
 ∃(ak:Bool) (aj:zY) (ai ah:Nat),aG ax (ad b) 0 [.bool ak,.slice aj ai ah]/\
 R (.agg #[.bool ak,.slice aj ai ah]) ax))
namespace eB
theorem link{x:Int}{H:zW}{R:zv}(h:pt x H R):C x H R:=by
 refine T_en K0 27 Tryz.func87 ?_
 intro w0 Q hQ
 unfold pt at h
 refine T_su [(0,vi x)]<| ar 0<| T_nw (some 2) (λb=>vp (pa b)) (.cells #[.bool false,vs none 0 0] 39) ?_
 intro b H1 e1 e2
 replace h:=h b H1 e1 e2
 refine T_pd [] [(2,vp (pa b))]<| T_e<| ar 1<| T_ed 3 [] [(3,vu (IntKind.wrap .u64 x))]<| T_sz<| ar 2<| T_ed 2 [] [(9,.bool (decide (x<0)))] ?_
 by_cases c3:x<0
 ·rw[if_pos c3]at h
  refine aH 9 (zQ c3)<| T_rz 3<| T_ed 3 [3,9] [(3,vu (IntKind.wrap .u64 (0-(IntKind.wrap .u64 x))))]<| ar 4<| T_nd 7 [0,3] [(14,.bool (decide (x<0))),(16,.int .u32 (IntKind.wrap .u32 (IntKind.wrap .u64 (0-(IntKind.wrap .u64 x))))),(19,.int .u32 (IntKind.wrap .u32 (ishr .u64 (IntKind.wrap .u64 (0-(IntKind.wrap .u64 x))) 32)))]<| T_nw (some 20) (λb=>vs (pa b) 2 2) (.cells #[.int .u32 (IntKind.wrap .u32 (IntKind.wrap .u64 (0-(IntKind.wrap .u64 x)))),.int .u32 (IntKind.wrap .u32 (ishr .u64 (IntKind.wrap .u64 (0-(IntKind.wrap .u64 x))) 32))] 154) ?_
  intro au H2 e5 e6
  replace h:=h au H2 e5 e6
  refine T_pd [16,19] [(20,vs (pa au) 2 2)]<| T_nd 1 [14,20] [(21,.agg #[.bool (decide (x<0)),vs (pa au) 2 2])]<| T_c (some 22) h ?_;clear h
  rintro v H3 ⟨aq,ag,af,ac,rfl,h⟩
  refine T_pd [21] [(22,.agg #[.bool aq,vs ag af ac])]<| T_c (some 23) h ?_;clear h
  rintro az H4 ⟨q,m,n,l,rb,rfl,h⟩
  refine T_pd [22] [(23,.tuple #[.agg #[.bool q,vs m n l],vi rb])]<| T_nd 3 [23] [(24,.agg #[.bool q,vs m n l]),(25,vi rb)]<| T_nw (some 4) (λb=>vp (pa b)) (.cells #[.bool false,vs none 0 0] 39) ?_
  intro aa H5 e7 e8
  replace h:=h aa H5 e7 e8
  refine T_pd [] [(4,vp (pa aa))] ?_
  obtain⟨q10,h⟩:=h
  refine bX 39 [.bool q,vs m n l] q10 ?_
  intro H6 e9
  replace h:=h H6 e9
  refine T_pd [24] []<| T_ed 1 [25] []<| ar 5 ?_
  obtain⟨p,z,u,y,q11,h⟩:=h
  refine T_lr 26 39 q11 [4] ?_
  obtain⟨q13,h⟩:=h
  refine bX 39 [.bool p,vs z u y] q13 ?_
  intro H7 e12
  replace h:=h H7 e12
  refine T_pd [26] []<| T_e<| zz ?_
  show At _ _ _ _ _ (Q .ret)
  obtain⟨aw,am,an,ao,q14,h⟩:=h
  exact cP (fn:=Tryz.f87) [.agg #[.bool aw,vs am an ao]] hQ (show cK _ _ _ [.cell 2 39] _ from .cell (by kernel_rfl) (aQ (λ_=>by kernel_rfl) (λ_=>by kernel_rfl) q14) (.nil)) h
 rw[if_neg c3]at h
 refine aI 9 (zJ c3)<| T_kt<| ar 4<| T_nd 7 [0,3,9] [(14,.bool (decide (x<0))),(16,.int .u32 (IntKind.wrap .u32 (IntKind.wrap .u64 x))),(19,.int .u32 (IntKind.wrap .u32 (ishr .u64 (IntKind.wrap .u64 x) 32)))]<| T_nw (some 20) (λb=>vs (pa b) 2 2) (.cells #[.int .u32 (IntKind.wrap .u32 (IntKind.wrap .u64 x)),.int .u32 (IntKind.wrap .u32 (ishr .u64 (IntKind.wrap .u64 x) 32))] 154) ?_
 intro av H8 e15 e16
 replace h:=h av H8 e15 e16
 refine T_pd [16,19] [(20,vs (pa av) 2 2)]<| T_nd 1 [14,20] [(21,.agg #[.bool (decide (x<0)),vs (pa av) 2 2])]<| T_c (some 22) h ?_;clear h
 rintro a1 H9 ⟨ae,s,r,t,rfl,h⟩
 refine T_pd [21] [(22,.agg #[.bool ae,vs s r t])]<| T_c (some 23) h ?_;clear h
 rintro a0 ay ⟨f,a,d,e,al,rfl,h⟩
 refine T_pd [22] [(23,.tuple #[.agg #[.bool f,vs a d e],vi al])]<| T_nd 3 [23] [(24,.agg #[.bool f,vs a d e]),(25,vi al)]<| T_nw (some 4) (λb=>vp (pa b)) (.cells #[.bool false,vs none 0 0] 39) ?_
 intro ab H11 e17 e18
 replace h:=h ab H11 e17 e18
 refine T_pd [] [(4,vp (pa ab))] ?_
 obtain⟨q20,h⟩:=h
 refine bX 39 [.bool f,vs a d e] q20 ?_
 intro ap e19
 replace h:=h ap e19
 refine T_pd [24] []<| T_ed 1 [25] []<| ar 5 ?_
 obtain⟨o,j,i,k,q21,h⟩:=h
 refine T_lr 26 39 q21 [4] ?_
 obtain⟨q23,h⟩:=h
 refine bX 39 [.bool o,vs j i k] q23 ?_
 intro ax e22
 replace h:=h ax e22
 refine T_pd [26] []<| T_e<| zz ?_
 show At _ _ _ _ _ (Q .ret)
 obtain⟨ak,aj,ai,ah,q24,h⟩:=h
 exact cP (fn:=Tryz.f87) [.agg #[.bool ak,vs aj ai ah]] hQ (show cK _ _ _ [.cell 2 39] _ from .cell (by kernel_rfl) (aQ (λ_=>by kernel_rfl) (λ_=>by kernel_rfl) q24) (.nil)) h
end eB

/-! moraine/moraineref02.May -/
namespace eZ
def K0:=Func.code Tryz.f101
end eZ
def eZ.pt(ag:Bool)(ac:zY)(ab ae:Nat)(H:zW)(R:zv):Prop:=
 ∀(b:Nat) (H1:zW),b=H.size->H1=H.push (.cells #[.bool ag,.slice ac ab ae] 39)->
 ∃(af:Bool) (aa:zY) (y z:Nat),aG H1 (ad b) 0 [.bool af,.slice aa y z]/\
 bK.C af aa y z H1 (λv H2=> ∃(u:Bool) (t:zY) (s r:Nat),v=.agg #[.bool u,.slice t s r]/\
 cQ.C u t s r H2 (λah H3=> ∃(k:Bool) (d:zY) (e a:Nat) (rb:Int),ah=.tuple #[.agg #[.bool k,.slice d e a],.int .i64 rb]/\
 ∀(p:Nat) (H4:zW),p=H3.size->H4=H3.push (.cells #[.bool false,.slice none 0 0] 39)->
 (aJ H4 (ad p) 0 2)/\ ∀H5,H5=aP H4 (ad p) [.bool k,.slice d e a] 0->
 if rb=0 then(
 ∃(o:Bool) (i:zY) (f j:Nat),aG H5 (ad p) 0 [.bool o,.slice i f j]/\
 ∃(q:Bool) (l:zY) (m n:Nat),aG H5 (ad b) 0 [.bool q,.slice l m n]/\
 dP.C o i f j q l m n H5 (λai H6=> ∃x:Bool,ai=.bool x/\
 R (.bool x) H6))
 else
 R (.bool false) H5))
namespace eZ
theorem link{ag:Bool}{ac:zY}{ab ae:Nat}{H:zW}{R:zv}(h:pt ag ac ab ae H R):C ag ac ab ae H R:=by
 refine T_en K0 18 Tryz.func101 ?_
 intro w0 Q hQ
 unfold pt at h
 refine T_su [(0,.agg #[.bool ag,vs ac ab ae])]<| ar 0<| T_nw (some 1) (λb=>vp (pa b)) (.cells #[.bool ag,vs ac ab ae] 39) ?_
 intro b H1 e1 e2
 replace h:=h b H1 e1 e2
 refine⟨[(1,vp (pa b))],pk,?_⟩
 refine T_ed 1 [] []<| ar 1 ?_
 obtain⟨af,aa,y,z,q3,h⟩:=h
 refine T_lr 6 39 q3 []<| T_c (some 7) h ?_;clear h
 rintro v H2 ⟨u,t,s,r,rfl,h⟩
 refine T_pd [6] [(7,.agg #[.bool u,vs t s r])]<| T_c (some 8) h ?_;clear h
 rintro ah H3 ⟨k,d,e,a,rb,rfl,h⟩
 refine T_pd [7] [(8,.tuple #[.agg #[.bool k,vs d e a],vi rb])]<| T_nd 3 [8] [(9,.agg #[.bool k,vs d e a]),(10,vi rb)]<| T_nw (some 3) (λb=>vp (pa b)) (.cells #[.bool false,vs none 0 0] 39) ?_
 intro p H4 e4 e5
 replace h:=h p H4 e4 e5
 refine T_pd [] [(3,vp (pa p))] ?_
 obtain⟨q7,h⟩:=h
 refine bX 39 [.bool k,vs d e a] q7 ?_
 intro H5 e6
 replace h:=h H5 e6
 refine T_pd [9] []<| T_ed 1 [10] [(4,vi rb)]<| ar 2<| T_nd 3 [4] [(13,.bool (rb==0))] ?_
 by_cases c8:rb=0
 ·rw[if_pos c8]at h
  refine N_bd 13 (zV c8) ?_
  obtain⟨o,i,f,j,q10,h⟩:=h
  refine T_lr 14 39 q10 [3] ?_
  obtain⟨q,l,m,n,q11,h⟩:=h
  refine T_lr 15 39 q11 [1]<| T_c (some 16) h ?_;clear h
  rintro ai H6 ⟨x,rfl,h⟩
  exact T_pd [14,15] [(16,.bool x)]<| T_nr 2 [2] [.bool x] hQ h
 rw[if_neg c8]at h
 exact N_bd 13 (zK c8)<| T_nr 5 [2] [.bool false] hQ h
end eZ

/-! moraine/moraineref02.value -/
namespace eN
def K0:=Func.code Tryz.f125
end eN
def eN.pt(a:Bool)(bB:zY)(bN bC:Nat)(H:zW)(R:zv):Prop:=
 ∀(b:Nat) (H1:zW),b=H.size->H1=H.push (.cells #[.bool false,.slice none 0 0] 157)->
 fD.C bB bN bC H1 (λv H2=> ∃(xB:zY) (xN xC:Nat),v=.slice xB xN xC/\
 if a=true then(
 (aJ H2 (ad b) 0 2)/\ ∀H3,H3=aP H2 (ad b) [.bool (decide ((xN:Int)>0)),.slice xB xN xC] 0->
 ∃(m:Bool) (j:zY) (i k:Nat),aG H3 (ad b) 0 [.bool m,.slice j i k]/\
 R (.agg #[.bool m,.slice j i k]) H3)
 else
 (aJ H2 (ad b) 0 2)/\ ∀H4,H4=aP H2 (ad b) [.bool false,.slice xB xN xC] 0->
 ∃(l:Bool) (d:zY) (f e:Nat),aG H4 (ad b) 0 [.bool l,.slice d f e]/\
 R (.agg #[.bool l,.slice d f e]) H4)
namespace eN
theorem link{a:Bool}{bB:zY}{bN bC:Nat}{H:zW}{R:zv}(h:pt a bB bN bC H R):C a bB bN bC H R:=by
 refine T_en K0 15 Tryz.func125 ?_
 intro w0 Q hQ
 unfold pt at h
 refine T_su [(0,.bool a),(1,vs bB bN bC)]<| ar 0<| T_nw (some 4) (λb=>vp (pa b)) (.cells #[.bool false,vs none 0 0] 157) ?_
 intro b H1 e1 e2
 replace h:=h b H1 e1 e2
 refine T_pd [] [(4,vp (pa b))]<| T_e<| ar 1<| T_nd 1 [1] [(5,vs bB bN bC)]<| T_c (some 6) h ?_;clear h
 rintro v H2 ⟨xB,xN,xC,rfl,h⟩
 refine T_pd [5] [(6,vs xB xN xC)]<| T_ed 1 [6] [(1,vs xB xN xC)]<| ar 2<| T_nd 2 [0] [(8,.bool a)] ?_
 by_cases c3:a=true
 ·rw[if_pos c3]at h
  refine N_bd 8 c3<| T_nd 6 [1,8] [(14,.agg #[.bool (decide ((xN:Int)>0)),vs xB xN xC])] ?_
  obtain⟨q6,h⟩:=h
  refine bX 157 [.bool (decide ((xN:Int)>0)),vs xB xN xC] q6 ?_
  intro H3 e5
  replace h:=h H3 e5
  refine T_pd [14] []<| T_e<| zz ?_
  show At _ _ _ _ _ (Q .ret)
  obtain⟨m,j,i,k,q7,h⟩:=h
  exact cP (fn:=Tryz.f125) [.agg #[.bool m,vs j i k]] hQ (show cK _ _ _ [.cell 4 157] _ from .cell (by kernel_rfl) (aQ (λ_=>by kernel_rfl) (λ_=>by kernel_rfl) q7) (.nil)) h
 rw[if_neg c3]at h
 refine N_bd 8 (zZ c3)<| T_nd 6 [1,8] [(14,.agg #[.bool false,vs xB xN xC])] ?_
 obtain⟨q9,h⟩:=h
 refine bX 157 [.bool false,vs xB xN xC] q9 ?_
 intro H4 e8
 replace h:=h H4 e8
 refine T_pd [14] []<| T_e<| zz ?_
 show At _ _ _ _ _ (Q .ret)
 obtain⟨l,d,f,e,q10,h⟩:=h
 exact cP (fn:=Tryz.f125) [.agg #[.bool l,vs d f e]] hQ (show cK _ _ _ [.cell 4 157] _ from .cell (by kernel_rfl) (aQ (λ_=>by kernel_rfl) (λ_=>by kernel_rfl) q10) (.nil)) h
end eN

/-! moraine/moraineref02.less -/
namespace dQ
def K0:=Func.code Tryz.f126
def K2:=cb K0
def K4:=cb K2
def K9:=ca K4
def K12:=cb K9
def K13:=ca K12
def K14:=ca K13
end dQ
def dQ.pt(aB:zY)(aN aC:Nat)(bB:zY)(bN bC:Nat)(H:zW)(R:zv):Prop:=
 if(aN:Int)=(bN:Int)then(
 ∃(l:zw) (m15:Int->zW->Nat),l (zq ((aN:Int)-1)) H/\ ∀(i:Int) (H1:zW),l i H1->
 if i>=0 then(
 ∃d:Addr,aB=some d/\
 yZ i aN/\
 ∃x:Int,hat H1 (d.add (Int.toNat i*1))=some (.int .u8 x)/\
 ∃b:Addr,bB=some b/\
 yZ i bN/\
 ∃j:Int,hat H1 (b.add (Int.toNat i*1))=some (.int .u8 j)/\
 if x=j then(
 (l (zq (i-1)) H1/\m15 (zq (i-1)) H1<m15 i H1))
 else
 yZ i aN/\
 ∃e:Int,hat H1 (d.add (Int.toNat i*1))=some (.int .u8 e)/\
 yZ i bN/\
 ∃f:Int,hat H1 (b.add (Int.toNat i*1))=some (.int .u8 f)/\
 R (.bool (decide (e<f))) H1)
 else
 R (.bool false) H1)
 else
 R (.bool (decide ((aN:Int)< (bN:Int)))) H
namespace dQ
theorem link{aB:zY}{aN aC:Nat}{bB:zY}{bN bC:Nat}{H:zW}{R:zv}(h:pt aB aN aC bB bN bC H R):C aB aN aC bB bN bC H R:=by
 refine T_en K0 41 Tryz.func126 ?_
 intro w0 Q hQ
 unfold pt zq at h
 refine T_su [(0,vs aB aN aC),(1,vs bB bN bC)]<| ar 0<| T_ed 1 [] []<| T_sz<| ar 1<| T_ed 5 [] [(10,.bool ((aN:Int) !=(bN:Int)))] ?_
 by_cases c1:(aN:Int)=(bN:Int)
 ·rw[if_pos c1]at h
  refine aI 10 (bne_eq_false_iff_eq.mpr c1)<| T_kt<| T_sz<| ar 3<| T_ed 4 [10] [(5,vi (zq ((aN:Int)-1)))]<| T_bz 0 ?_
  obtain⟨l,m15,i3,i4⟩:=h
  refine dS (x:=K14) (σ:=Int) (λs_=> [(0,vs aB aN aC),(1,vs bB bN bC),(5,vi s_)]) (λs_ H=>l s_ H) (λs_ H=>m15 s_ H) ((zq ((aN:Int)-1)):Int) (by kernel_rfl) i3 sk ?_
  rintro i H1 i5
  have h:=i4 i H1 i5
  refine T_su [(0,vs aB aN aC),(1,vs bB bN bC),(5,vi i)]<| T_sz<| ar 4<| T_ed 2 [] [(20,.bool (decide (i>=0)))] ?_
  by_cases c6:i>=0
  ·rw[if_pos c6]at h
   refine aH 20 (zQ c6)<| T_kt<| T_sz<| T_bz 1<| T_sz<| ll 6<| T_q1 23 (vs aB aN aC) [20]<| T_q1 24 (vi i) [] ?_
   obtain⟨d,rfl,q8,h⟩:=h
   refine Q_op (some 25) (bD 155 (vs (some d) aN aC) (vi i)) (vp (some (d.add (Int.toNat i*1)))) (λ_=>by kernel_rfl) (λw _=>bR (P:=Tryz.prog) (t:=155) (elem:=5) (sz:=1) (a:=d) (len:=aN) (cap:=aC) (k:=.i64) (i:=i) Tryz.underlying155 (λ_=>by kernel_rfl) q8.1 q8.2 w) [(0,vs (some d) aN aC),(1,vs bB bN bC),(5,vi i),(25,vp (some (d.add (Int.toNat i*1))))] pk ?_
   obtain⟨x,q9,h⟩:=h
   refine T_ql (some 26) 5 q9 [(0,vs (some d) aN aC),(1,vs bB bN bC),(5,vi i),(26,.int .u8 x)]<| T_q1 27 (vs bB bN bC) []<| T_q1 28 (vi i) [] ?_
   obtain⟨b,rfl,q10,h⟩:=h
   refine Q_op (some 29) (bD 155 (vs (some b) bN bC) (vi i)) (vp (some (b.add (Int.toNat i*1)))) (λ_=>by kernel_rfl) (λw _=>bR (P:=Tryz.prog) (t:=155) (elem:=5) (sz:=1) (a:=b) (len:=bN) (cap:=bC) (k:=.i64) (i:=i) Tryz.underlying155 (λ_=>by kernel_rfl) q10.1 q10.2 w) [(0,vs (some d) aN aC),(1,vs (some b) bN bC),(5,vi i),(26,.int .u8 x),(29,vp (some (b.add (Int.toNat i*1))))] pk ?_
   obtain⟨j,q11,h⟩:=h
   refine T_ql (some 30) 5 q11 [(0,vs (some d) aN aC),(1,vs (some b) bN bC),(5,vi i),(26,.int .u8 x),(30,.int .u8 j)]<| T_q1 31 (.bool (x !=j)) [26,30]<| jp [(0,vs (some d) aN aC),(1,vs (some b) bN bC),(5,vi i),(31,.bool (x !=j))] sk<| T_qe ?_
   by_cases c12:x=j
   ·rw[if_pos c12]at h
    exact aI 31 (bne_eq_false_iff_eq.mpr c12)<| T_k<| aL<| aE<| T_rz 5<| T_ne 3 [(0,vs (some d) aN aC),(1,vs (some b) bN bC),(5,vi (zq (i-1)))]<| bG ((zq (i-1)):Int) sk h
   rw[if_neg c12]at h
   refine aH 31 (bne_iff_ne.mpr c12)<| T_sz<| ll 7<| T_q (some 32) (vs (some d) aN aC) [(1,vs (some b) bN bC),(5,vi i),(32,vs (some d) aN aC)]<| T_q1 33 (vi i) [] ?_
   obtain⟨q14,h⟩:=h
   refine Q_op (some 34) (bD 155 (vs (some d) aN aC) (vi i)) (vp (some (d.add (Int.toNat i*1)))) (λ_=>by kernel_rfl) (λw _=>bR (P:=Tryz.prog) (t:=155) (elem:=5) (sz:=1) (a:=d) (len:=aN) (cap:=aC) (k:=.i64) (i:=i) Tryz.underlying155 (λ_=>by kernel_rfl) q14.1 q14.2 w) [(1,vs (some b) bN bC),(5,vi i),(34,vp (some (d.add (Int.toNat i*1))))] pk ?_
   obtain⟨e,q15,h⟩:=h
   refine T_ql (some 35) 5 q15 [(1,vs (some b) bN bC),(5,vi i),(35,.int .u8 e)]<| T_q1 36 (vs (some b) bN bC) [1]<| T_q1 37 (vi i) [5] ?_
   obtain⟨q16,h⟩:=h
   refine Q_op (some 38) (bD 155 (vs (some b) bN bC) (vi i)) (vp (some (b.add (Int.toNat i*1)))) (λ_=>by kernel_rfl) (λw _=>bR (P:=Tryz.prog) (t:=155) (elem:=5) (sz:=1) (a:=b) (len:=bN) (cap:=bC) (k:=.i64) (i:=i) Tryz.underlying155 (λ_=>by kernel_rfl) q16.1 q16.2 w) [(35,.int .u8 e),(38,vp (some (b.add (Int.toNat i*1))))] pk ?_
   obtain⟨f,q17,h⟩:=h
   exact T_ql (some 39) 5 q17 [(35,.int .u8 e),(39,.int .u8 f)]<| T_q1 40 (.bool (decide (e<f))) [35,39]<| T_q1 4 (.bool (decide (e<f))) [40]<| jp [(4,.bool (decide (e<f)))] sk<| T_qe<| ie [4] [.bool (decide (e<f))] hQ h
  rw[if_neg c6]at h
  exact aI 20 (zJ c6)<| zk 0<| aD<| aD<| aR<| aE<| ar 8<| T_nr 1 [4] [.bool false] hQ h
 rw[if_neg c1]at h
 exact aH 10 (bne_iff_ne.mpr c1)<| ar 2<| T_nr 6 [4] [.bool (decide ((aN:Int)< (bN:Int)))] hQ h
end dQ

/-! moraine/moraineref02.cut -/
namespace fD
def K0:=Func.code Tryz.f154
def K2:=cb K0
def K4:=cb K2
def K5:=ca K4
def K7:=ca K5
def K8:=ca K7
end fD
def fD.pt(bB:zY)(bN bC:Nat)(H:zW)(R:zv):Prop:=
 ∃(I9:zw) (m9:Int->zW->Nat),I9 (bN:Int) H/\ ∀(nv:Int) (H1:zW),I9 nv H1->
 if nv>0 then(
 ∃d:Addr,bB=some d/\
 ((0:Int)<=(zq (nv-1))/\(zq (nv-1))< (bN:Int))/\
 ∃x:Int,hat H1 (d.add (Int.toNat (zq (nv-1))*1))=some (.int .u8 x)/\
 if x=0 then(
 (I9 (zq (nv-1)) H1/\m9 (zq (nv-1)) H1<m9 nv H1))
 else
 ∃(lo hi:Nat),lo=0/\nv=(hi:Int)/\lo<=hi/\hi<=bC/\
 ∀sl:zY,sl=(if bC=lo then(some d)else Option.map (λa:Addr=>a.add (lo*1)) (some d))->
 R (.slice sl (hi-lo) (bC-lo)) H1)
 else
 ∃(b e:Nat),b=0/\nv=(e:Int)/\b<=e/\e<=bC/\
 ∀f:zY,f=(if bC=b then bB else Option.map (λa:Addr=>a.add (b*1)) bB)->
 R (.slice f (e-b) (bC-b)) H1
namespace fD
theorem link{bB:zY}{bN bC:Nat}{H:zW}{R:zv}(h:pt bB bN bC H R):C bB bN bC H R:=by
 refine T_en K0 21 Tryz.func154 ?_
 intro w0 Q hQ
 unfold pt zq at h
 refine T_su [(0,vs bB bN bC)]<| ar 0<| T_ed 1 [] []<| ar 1<| T_ed 3 [] [(3,vi bN)]<| T_sz<| T_bz 0 ?_
 obtain⟨I9,m9,i1,i2⟩:=h
 refine dS (x:=K8) (σ:=Int) (λs_=> [(0,vs bB bN bC),(3,vi s_)]) (λs_ H=>I9 s_ H) (λs_ H=>m9 s_ H) ((bN:Int):Int) (by kernel_rfl) i1 sk ?_
 rintro nv H1 i3
 have h:=i2 nv H1 i3
 refine T_su [(0,vs bB bN bC),(3,vi nv)]<| T_sz<| ar 2<| T_nd 3 [] [(8,.bool (decide (nv>0)))] ?_
 by_cases c4:nv>0
 ·rw[if_pos c4]at h
  refine N_bd 8 (zQ c4)<| T_nd 3 [] [(9,vs bB bN bC),(11,vi (zq (nv-1)))] ?_
  obtain⟨d,rfl,q6,h⟩:=h
  refine T_xd (some 12) 155 5 1 d bN bC .i64 (zq (nv-1)) Tryz.underlying155 q6.1 q6.2 [0,9,11] [(0,vs (some d) bN bC),(12,vp (some (d.add (Int.toNat (zq (nv-1))*1))))] ?_
  obtain⟨x,q7,h⟩:=h
  refine T_l1 13 5 q7 [12]<| T_ed 2 [8,13] [(15,.bool (x==0))] ?_
  by_cases c8:x=0
  ·rw[if_pos c8]at h
   exact aH 15 (zV c8)<| T_kt<| T_bz 1<| T_rz 3<| T_nd 3 [3,15] [(3,vi (zq (nv-1)))]<| zx<| aL<| aE<| bG ((zq (nv-1)):Int) sk h
  rw[if_neg c8]at h
  refine aI 15 (zK c8)<| zk 0<| aD<| aD<| aR<| aE<| ar 4<| T_n 2 [(18,vs (some d) bN bC),(19,vi nv)] ?_
  obtain⟨lo,hi,q10,q11,q12,q13,h⟩:=h
  obtain⟨sl,e14⟩: ∃B,B=(if bC=lo then(some d)else Option.map (λa:Addr=>a.add (lo*1)) (some d)):=⟨_,rfl⟩
  replace h:=h sl e14
  exact T_v1 20 (ku 155 (vs (some d) bN bC) none (some (vi nv)) none) (vs sl (hi-lo) (bC-lo)) (λw _=>(jD (P:=Tryz.prog) (t:=155) (elem:=5) (sz:=1) (a:=(some d)) (len:=bN) (cap:=bC) none (some (vi nv)) lo hi Tryz.underlying155 (λ_=>by kernel_rfl) (.inl ⟨rfl,q10⟩) (.inr ⟨.i64,congrArg (λq=>some (Value.int .i64 q)) q11⟩) q12 q13 w).trans (by rw[e14];try rfl)) [18,19]<| T_nr 1 [2] [vs sl (hi-lo) (bC-lo)] hQ h
 rw[if_neg c4]at h
 refine N_bd 8 (zJ c4)<| T_ed 7 [8] [(15,.bool false)]<| T_fz 15 ?_
 refine zk 0<| aD<| aD<| aR<| aE<| ar 4<| T_n 2 [(18,vs bB bN bC),(19,vi nv)] ?_
 obtain⟨b,e,q15,q16,q17,q18,h⟩:=h
 obtain⟨f,e19⟩: ∃B,B=(if bC=b then bB else Option.map (λa:Addr=>a.add (b*1)) bB):=⟨_,rfl⟩
 replace h:=h f e19
 exact T_v1 20 (ku 155 (vs bB bN bC) none (some (vi nv)) none) (vs f (e-b) (bC-b)) (λw _=>(jD (P:=Tryz.prog) (t:=155) (elem:=5) (sz:=1) (a:=bB) (len:=bN) (cap:=bC) none (some (vi nv)) b e Tryz.underlying155 (λ_=>by kernel_rfl) (.inl ⟨rfl,q15⟩) (.inr ⟨.i64,congrArg (λq=>some (Value.int .i64 q)) q16⟩) q17 q18 w).trans (by rw[e19];try rfl)) [18,19]<| T_nr 1 [2] [vs f (e-b) (bC-b)] hQ h
end fD

