/- Printed: what each function asks, and that it is sound. -/
import Derived.Test.YtojbbgcjiaphjaaGreatFnsC
set_option linter.unusedSimpArgs false
set_option linter.unusedVariables false
set_option maxRecDepth 100000
set_option maxHeartbeats 1000000
noncomputable section
namespace Go.Proofs.YtojbbgcjiaphjaaGreat
open Go
/-! moraine/audit.Things -/
namespace dW
def K0:=Func.code Tryz.f20
def K2:=cb K0
def K4:=cb K2
def K5:=ca K4
def K8:=cb K5
def K9:=ca K8
def K10:=ca K9
def K11:=cb K9
end dW
def dW.pt(hv:zW)(H:zV)(R:zv):Prop:=
 ∀(b:Nat) (H1:zV),b=H.size->H1=H.push (.cells #[.slice none 0 0] 29)->
 cW.C hv H1 (λv H2=>v=v/\
 ∀(rc:LoopState->Option Code->Obj) (lp:Nat) (H3:zV),lp=H2.size+1->H3=(H2.push (.deferred (some []))).push (rc .ready none)->
 ∀vY:Value,(∀(a:Int) (x_3:Int) (H4:zV) (vRy:zv),H4[lp]?=some (rc .ready none)->
 (H4[lp]?=some (rc .ready none)/\ ∀H5:zV,H5=aF H4 lp (rc .busy none)->
 if x_3>0 then(
 ∃(xB:zW) (xN xC:Nat),hat H5 (ad b)=some (.slice xB xN xC)/\
 ∀(j:Nat) (H6:zV),j=H5.size->H6=H5.push (.cells #[.int .u64 a] 40)->
 dH 1 40 8 [.int .u64 0] xB xN xC (some (ad j)) 1 H6 (λap i H7=>
 (aK H7 (ad b) 0 1)/\ ∀H8,H8=aU H7 (ad b) [.slice ap (xN+1) i] 0->
 H8[lp]?=some (rc .busy none)/\
 vRy (.bool true) (aF H8 lp (rc .ready none))))
 else
 H5[lp]?=some (rc .busy none)/\
 vRy (.bool true) (aF H5 lp (rc .ready none)))->
 FC Tryz.prog vY #[.int .u64 a,.int .i64 x_3] H4 vRy)->
 FE Tryz.prog v #[vY] H3 (λ_ H9=>
 (H9[lp]?=some (rc .ready none)/\ ∀k:zV,k=aF H9 lp (rc .exhausted none)->
 ∃(f:zW) (d e:Nat),hat k (ad b)=some (.slice f d e)/\
 Shut (H2.size::[]) k (λl=>
 R (.slice f d e) l))))
namespace dW
theorem link{hv:zW}{H:zV}{R:zv}(h:pt hv H R):C hv H R:=by
 refine T_en K0 17 Tryz.func20 ?_
 intro w0 Q hQ
 unfold pt at h
 refine T_su [(0,vp hv)]<| ar 0<| T_ed 1 [] []<| ar 1<| T_nw (some 3) (λb=>vp (pa b)) (.cells #[vs none 0 0] 29) ?_
 intro b H1 e1 e2
 replace h:=h b H1 e1 e2
 refine T_pd [] [(3,vp (pa b))]<| T_e<| T_sz<| ar 2<| T_nd 1 [0] [(6,vp hv)]<| T_c (some 7) h ?_;clear h
 rintro v H2 ⟨-,h⟩
 refine T_pd [6] [(7,v)]<| T_e<| T_bz 0<| iO (g:=.tmp 7) (ps:= #[8,9]) (assign:=K10) (body:=K11) (v) (by kernel_rfl) (by kernel_rfl) (by kernel_rfl) ?_
 intro rc lp H3 r3 e4 e5 y6
 refine FE.mono (h rc lp H3 e4 e5 (.func (.yield lp) #[] #[]) ?_) ?_
 ·clear h
  intro a x_3 H4 vRy q7 h
  refine y6 #[vu a,vi x_3] H4 vRy (by kernel_rfl) q7 (λw1x=>?_)
  refine T_sd [] [(8,vu a),(9,vi x_3)]<| ar 3<| T_ed 1 [7,8] [(4,vu a)]<| T_rz 4<| T_nd 1 [9] [(5,vi x_3)]<| zq ?_
  obtain⟨q9,h⟩:=h
  refine aE<| iN r3 q9 ?_
  intro H5 e8
  replace h:=h H5 e8
  refine T_bz 1<| ar 5<| T_ed 2 [5] [(11,.bool (decide (x_3>0)))] ?_
  by_cases c10:x_3>0
  ·rw[if_pos c10]at h
   refine aL 11 (zX c10)<| T_rz 6<| T_ud [11] [] ?_
   obtain⟨xB,xN,xC,q12,h⟩:=h
   refine T_l1 12 29 q12 []<| T_nd 1 [4] [(13,vu a)]<| T_nw (some 14) (λb=>vs (pa b) 1 1) (.cells #[vu a] 40) ?_
   intro j H6 e13 e14
   replace h:=h j H6 e13 e14
   refine T_pd [13] [(14,vs (pa j) 1 1)]<| N_op (some 15) (eJ #[29,29] 29 #[vs xB xN xC,vs (pa j) 1 1]) _ (λ_=>by kernel_rfl) (dM (T:=40) (sz:=1) (bytes:=8) (zero:=(vu 0:Value)) Tryz.underlying29 Tryz.underlying29 rfl (show Tryz.prog.info? 40=some Tryz.t40 from by kernel_rfl) (by kernel_rfl) (by kernel_rfl) (by decide) (by kernel_rfl) (by first | exact h | (simpa only[Value.cells,List.toList_toArray]using h))) ?_;clear h
   rintro _ H7 ⟨ap,i,rfl,h⟩
   refine T_pd [12,14] [(15,vs ap (xN+1) i)] ?_
   obtain⟨q16,h⟩:=h
   refine fB 29 (vs ap (xN+1) i) q16 ?_
   intro H8 e15
   replace h:=h H8 e15
   refine⟨[],pk,?_⟩
   refine zq<| aA ?_
   obtain⟨q17,h⟩:=h
   exact bG r3 q17 h
  rw[if_neg c10]at h
  refine aM 11 (zQ c10)<| T_k<| aA ?_
  obtain⟨q18,h⟩:=h
  exact bG r3 q18 h
 clear h y6
 rintro _ H9 (⟨q19,h⟩)
 refine .inl ⟨q19,λk e21=>?_⟩
 replace h:=h k e21
 refine gR (H2.size::[]) rfl ?_
 refine T_sd [7] []<| aA<| aE<| ar 7 ?_
 obtain⟨f,d,e,q20,h⟩:=h
 refine T_l1 16 29 q20 [3]<| T_ne 1 [(2,vs f d e)]<| zx ?_
 show At _ _ _ _ _ (Q .ret)
 refine iI (fn:=Tryz.f20) (H2.size::[]) hQ (Shut.mono (λl h=>?_) h)
 exact⟨[vs f d e],(show dF _ _ _ [.tmp 2] _ from .tmp (by kernel_rfl) (.nil)),h⟩
end dW

/-! moraine/audit.Check -/
namespace eX
def K0:=Func.code Tryz.f21
def K2:=cb K0
def K4:=cb K2
def K5:=ca K4
def K6:=cb K4
def K8:=cb K5
def K9:=ca K8
def K10:=ca K9
def K11:=cb K9
def K23:=ca K6
def K24:=cb K6
def K26:=cb K23
def K27:=ca K26
def K28:=ca K27
def K30:=cb K28
def K32:=cb K30
def K35:=ca K32
def K37:=ca K35
def K39:=cb K37
def K41:=cb K39
def K42:=ca K41
def K43:=ca K42
def K44:=cb K42
def K56:=ca K24
def K59:=cb K56
def K60:=ca K59
def K61:=ca K60
end eX
def eX.pt(hv j:zW)(f e:Nat)(H:zV)(R:zv):Prop:=
 ∀(b:Nat) (H1:zV),b=H.size->H1=H.push (.cells #[.int .i64 0] 3)->
 ∀(d:Nat) (H2:zV),d=H1.size->H2=H1.push (.cells #[.int .i64 0] 45)->
 ∀(ai:Nat) (H3:zV),ai=H2.size->H3=H2.push (.map #[] 0)->
 ∀(l:Nat) (H4:zV),l=H3.size->H4=H3.push (.cells #[.map none] 100)->
 (aK H4 (ad l) 0 1)/\ ∀H5,H5=aU H4 (ad l) [.map (some ai)] 0->
 cW.C hv H5 (λv H6=>v=v/\
 ∀(rc:LoopState->Option Code->Obj) (lp:Nat) (H7:zV),lp=H6.size+1->H7=(H6.push (.deferred (some []))).push (rc .ready none)->
 ∀vY:Value,(∀(aa:Int) (x_3:Int) (H8:zV) (vRy:zv),H8[lp]?=some (rc .ready none)->
 (H8[lp]?=some (rc .ready none)/\ ∀H9:zV,H9=aF H8 lp (rc .busy none)->
 if x_3=0 then(
 cV.C aa H9 (λbt bi=> ∃an:Int,bt=.int .i64 an/\
 (aK bi (ad b) 0 1)/\ ∀ax,ax=aU bi (ad b) [.int .i64 an] 0->
 (aK ax (ad d) 0 1)/\ ∀a1,a1=aU ax (ad d) [.int .i64 9] 0->
 a1[lp]?=some (rc .busy none)/\
 vRy (.bool false) (aF a1 lp (rc .done (some .ret)))))
 else
 ∃ay:Option Nat,hat H9 (ad l)=some (.map ay)/\
 ∃mr:Nat,ay=some mr/\
 ∃(es:Array MapEntry) (cl:Nat) (ks:List (Int×Value)),H9[mr]?=some (.map es cl)/\Ents (bT .u64) es.toList ks/\
 ∀(a0:Array MapEntry) (cl_2:Nat) (H13:zV),H13=aF H9 mr (.map a0 cl_2)->Ents (bT .u64) a0.toList (mput ks aa (.int .i64 x_3))->
 H13[lp]?=some (rc .busy none)/\
 vRy (.bool true) (aF H13 lp (rc .ready none)))->
 FC Tryz.prog vY #[.int .u64 aa,.int .i64 x_3] H8 vRy)->
 FE Tryz.prog v #[vY] H7 (λ_ a5=>
 (a5[lp]?=some (rc .ready none)/\ ∀aj:zV,aj=aF a5 lp (rc .exhausted none)->
 dW.C hv aj (λbn bs=> ∃(xB:zW) (xN xC:Nat),bn=.slice xB xN xC/\
 ∃(aw:Int->(List Nat)->zV->Prop) (m29:Int->(List Nat)->zV->Nat),aw 0 (H6.size::[]) bs/\ ∀(o:Int) (ms:List Nat) (H17:zV),aw o ms H17->
 if o< (xN:Int)then(
 ∃ac:Addr,xB=some ac/\
 yZ o xN/\
 ∃am:Int,hat H17 (ac.add (Int.toNat o*1))=some (.int .u64 am)/\
 bA.C hv am H17 (λao ag=>ao=ao/\
 ∀(z:LoopState->Option Code->Obj) (lp_2:Nat) (H19:zV),lp_2=ag.size+1->H19=(ag.push (.deferred (some []))).push (z .ready none)->
 ∀bm:Value,(∀(ab:Int) (x_9:Int) (H20:zV) (vRy_2:zv),H20[lp_2]?=some (z .ready none)->
 (H20[lp_2]?=some (z .ready none)/\ ∀a2:zV,a2=aF H20 lp_2 (z .busy none)->
 ∃ak:Option Nat,hat a2 (ad l)=some (.map ak)/\
 cY.C x_9 ak a2 (λbo aq=> ∃u:Int,bo=.int .i64 u/\
 if u=0 then(
 aq[lp_2]?=some (z .busy none)/\
 vRy_2 (.bool true) (aF aq lp_2 (z .ready none)))
 else
 (aK aq (ad b) 0 1)/\ ∀ap,ap=aU aq (ad b) [.int .i64 ab] 0->
 (aK ap (ad d) 0 1)/\ ∀a4,a4=aU ap (ad d) [.int .i64 u] 0->
 a4[lp_2]?=some (z .busy none)/\
 vRy_2 (.bool false) (aF a4 lp_2 (z .done (some .ret)))))->
 FC Tryz.prog bm #[.int .i64 ab,.int .u64 x_9] H20 vRy_2)->
 FE Tryz.prog ao #[bm] H19 (λ_ a3=>
 (a3[lp_2]?=some (z .ready none)/\ ∀ah:zV,ah=aF a3 lp_2 (z .exhausted none)->
 (aw (zY (o+1)) (ag.size::ms) ah/\m29 (zY (o+1)) (ag.size::ms) ah<m29 o ms H17))\/
 (a3[lp_2]?=some (z .done (some .ret))/\ ∀ah:zV,ah=aF a3 lp_2 (z .exhausted (some .ret))->
 Shut (ag.size::ms) ah (λa7=>
 ∃r:Int,hat a7 (ad b)=some (.int .i64 r)/\
 ∃bb:Int,hat a7 (ad d)=some (.int .i64 bb)/\
 R (.tuple #[.int .i64 r,.int .i64 bb]) a7)))))
 else
 eP.C hv j f e H17 (λbp bq=> ∃(ae:zW) (m p:Nat),bp=.slice ae m p/\
 ∃(a6:zw) (m62:Int->zV->Nat),a6 0 bq/\ ∀(n:Int) (H29:zV),a6 n H29->
 if n< (m:Int)then(
 ∃q:Addr,ae=some q/\
 yZ n m/\
 ∃af:Int,hat H29 (q.add (Int.toNat n*1))=some (.int .u64 af)/\
 ∃al:Option Nat,hat H29 (ad l)=some (.map al)/\
 cY.C af al H29 (λbu au=> ∃y:Int,bu=.int .i64 y/\
 if y=0 then(
 (a6 (zY (n+1)) au/\m62 (zY (n+1)) au<m62 n H29))
 else
 (aK au (ad b) 0 1)/\ ∀av,av=aU au (ad b) [.int .i64 (-1)] 0->
 (aK av (ad d) 0 1)/\ ∀bj,bj=aU av (ad d) [.int .i64 y] 0->
 Shut (ms) bj (λa8=>
 ∃a9:Int,hat a8 (ad b)=some (.int .i64 a9)/\
 ∃bc:Int,hat a8 (ad d)=some (.int .i64 bc)/\
 R (.tuple #[.int .i64 a9,.int .i64 bc]) a8)))
 else
 fD.C hv H29 (λbr bf=> ∃ra rb:Int,br=.tuple #[.int .i64 ra,.int .i64 rb]/\
 (aK bf (ad b) 0 1)/\ ∀az,az=aU bf (ad b) [.int .i64 ra] 0->
 (aK az (ad d) 0 1)/\ ∀bd,bd=aU az (ad d) [.int .i64 rb] 0->
 Shut (ms) bd (λbk=>
 ∃be:Int,hat bk (ad b)=some (.int .i64 be)/\
 ∃bl:Int,hat bk (ad d)=some (.int .i64 bl)/\
 R (.tuple #[.int .i64 be,.int .i64 bl]) bk)))))\/
 (a5[lp]?=some (rc .done (some .ret))/\ ∀aj:zV,aj=aF a5 lp (rc .exhausted (some .ret))->
 Shut (H6.size::[]) aj (λbh=>
 ∃ba:Int,hat bh (ad b)=some (.int .i64 ba)/\
 ∃bg:Int,hat bh (ad d)=some (.int .i64 bg)/\
 R (.tuple #[.int .i64 ba,.int .i64 bg]) bh))))
namespace eX
theorem link{hv j:zW}{f e:Nat}{H:zV}{R:zv}(h:pt hv j f e H R):C hv j f e H R:=by
 refine T_en K0 68 Tryz.func21 ?_
 intro w0 Q hQ
 unfold pt zY at h
 refine T_su [(0,vp hv),(1,vs j f e)]<| ar 0<| T_nw (some 4) (λb=>vp (pa b)) (.cells #[vi 0] 3) ?_
 intro b H1 e1 e2
 replace h:=h b H1 e1 e2
 refine T_pd [] [(4,vp (pa b))]<| T_nw (some 5) (λb=>vp (pa b)) (.cells #[vi 0] 45) ?_
 intro d H2 e3 e4
 replace h:=h d H2 e3 e4
 refine T_pd [] [(5,vp (pa d))]<| T_e<| ar 1<| T_nw (some 17) (λb=> .map (some b)) (.map #[] 0) ?_
 intro ai H3 e5 e6
 replace h:=h ai H3 e5 e6
 refine T_pd [] [(17,.map (some ai))]<| T_nw (some 6) (λb=>vp (pa b)) (.cells #[.map none] 100) ?_
 intro l H4 e7 e8
 replace h:=h l H4 e7 e8
 refine T_pd [] [(6,vp (pa l))] ?_
 obtain⟨q10,h⟩:=h
 refine fB 100 (.map (some ai)) q10 ?_
 intro H5 e9
 replace h:=h H5 e9
 refine T_pd [17] []<| T_e<| T_sz<| ar 2<| T_nd 1 [] [(18,vp hv)]<| T_c (some 19) h ?_;clear h
 rintro v H6 ⟨-,h⟩
 refine T_pd [18] [(19,v)]<| T_e<| T_bz 0<| iO (g:=.tmp 19) (ps:= #[20,21]) (assign:=K10) (body:=K11) (v) (by kernel_rfl) (by kernel_rfl) (by kernel_rfl) ?_
 intro rc lp H7 r11 e12 e13 y14
 refine FE.mono (h rc lp H7 e12 e13 (.func (.yield lp) #[] #[]) ?_) ?_
 ·clear h
  intro aa x_3 H8 vRy q15 h
  refine y14 #[vu aa,vi x_3] H8 vRy (by kernel_rfl) q15 (λw1x=>?_)
  refine T_sd [] [(20,vu aa),(21,vi x_3)]<| ar 3<| T_ed 1 [0,1,19,20] [(7,vu aa)]<| T_rz 4<| T_nd 1 [21] [(8,vi x_3)]<| zq ?_
  obtain⟨q17,h⟩:=h
  refine aE<| iN r11 q17 ?_
  intro H9 e16
  replace h:=h H9 e16
  refine T_bz 1<| T_sz<| ar 5<| T_ed 2 [] [(23,.bool (x_3==0))] ?_
  by_cases c18:x_3=0
  ·rw[if_pos c18]at h
   refine aL 23 (zK c18)<| ar 6<| T_nd 1 [6,7,8,23] [(24,vu aa)]<| T_c (some 25) h ?_;clear h
   rintro bt bi ⟨an,rfl,h⟩
   refine T_pd [24] [(25,vi an)] ?_
   obtain⟨q21,h⟩:=h
   refine fB 3 (vi an) q21 ?_
   intro ax e20
   replace h:=h ax e20
   refine T_pd [4,25] [] ?_
   obtain⟨q23,h⟩:=h
   refine fB 45 (vi 9) q23 ?_
   intro a1 e22
   replace h:=h a1 e22
   refine⟨[],pk,?_⟩
   refine T_e<| zx ?_
   show At _ _ _ _ _ (roundPost _ _ _ .ret)
   obtain⟨q24,h⟩:=h
   exact pq r11 q24 h
  rw[if_neg c18]at h
  refine aM 23 (zJ c18)<| T_kt<| T_rz 7<| T_ud [4,5,23] [] ?_
  obtain⟨ay,q25,h⟩:=h
  refine T_l1 26 100 q25 [6]<| T_nd 2 [7,8] [(27,vu aa),(28,vi x_3)] ?_
  obtain⟨mr,rfl,es,cl,ks,q26,q27,h⟩:=h
  refine kq none (kw 100 (.map (some mr)) (vu aa) (vi x_3)) (λHz=> ∃es2 cl2,Hz=aF H9 mr (.map es2 cl2)/\Ents (bT .u64) es2.toList (mput ks aa (vi x_3))) (λ_=>by kernel_rfl) (λw hw=>by obtain⟨es2,cl2,q1,q2⟩:=lw (kk:=(bT .u64)) (P:=Tryz.prog) (w:=w) (k:=aa) (v:=vi x_3) Tryz.underlying100 Tryz.underlying40 (by rw[hw];exact q26) q27;exact⟨_,q1,⟨rfl,rfl,rfl,Nat.le_refl _⟩,es2,cl2,by rw[<-hw],q2⟩) ?_
  rintro H13 ⟨a0,cl_2,e29,e30⟩
  replace h:=h a0 cl_2 H13 e29 e30
  refine⟨[],pk,?_⟩
  refine zq<| aA ?_
  obtain⟨q31,h⟩:=h
  exact bG r11 q31 h
 clear h y14
 rintro _ a5 (⟨q32,h⟩ | ⟨q32,h⟩)
 ·refine .inl ⟨q32,λaj e84=>?_⟩
  replace h:=h aj e84
  refine gR (H6.size::[]) rfl ?_
  refine T_sd [19] []<| aA<| aE<| T_sz<| ar 8<| T_nd 1 [] [(29,vp hv)]<| T_c (some 30) h ?_;clear h
  rintro bn bs ⟨xB,xN,xC,rfl,h⟩
  refine T_pd [29] [(30,vs xB xN xC)]<| T_ed 2 [] [(31,vi xN),(32,vi 0)]<| T_bz 2 ?_
  obtain⟨aw,m29,i33,i34⟩:=h
  refine mw (x:=K28) (σ:=Int×(List Nat)) (λs_=> [(0,vp hv),(1,vs j f e),(4,vp (pa b)),(5,vp (pa d)),(6,vp (pa l)),(30,vs xB xN xC),(31,vi xN),(32,vi s_.1)]) (λs_=>s_.2) (λs_ H=>aw s_.1 s_.2 H) (λs_ H=>m29 s_.1 s_.2 H) ((0,(H6.size::[])):Int×(List Nat)) (by kernel_rfl) i33 sk ?_
  rintro⟨o,ms⟩ H17 i35
  have h:=i34 o ms H17 i35
  refine T_su [(0,vp hv),(1,vs j f e),(4,vp (pa b)),(5,vp (pa d)),(6,vp (pa l)),(30,vs xB xN xC),(31,vi xN),(32,vi o)]<| ar 9<| T_ed 1 [] [(33,.bool (decide (o< (xN:Int))))]<| T_sz ?_
  by_cases c36:o< (xN:Int)
  ·rw[if_pos c36]at h
   refine aL 33 (zX c36)<| T_kt<| T_sz<| T_bz 3<| ar 10<| T_ud [33] [] ?_
   obtain⟨ac,rfl,q38,h⟩:=h
   refine T_xd (some 34) 29 40 1 ac xN xC .i64 o Tryz.underlying29 q38.1 q38.2 [30] [(30,vs (some ac) xN xC),(34,vp (some (ac.add (Int.toNat o*1))))] ?_
   obtain⟨am,q39,h⟩:=h
   refine T_l1 35 40 q39 [34]<| T_ed 1 [35] [(10,vu am)]<| ar 11<| T_nd 2 [10] [(36,vp hv),(37,vu am)]<| T_c (some 38) h ?_;clear h
   rintro ao ag ⟨-,h⟩
   refine T_pd [36,37] [(38,ao)]<| T_e<| T_bz 4<| iO (g:=.tmp 38) (ps:= #[39,40]) (assign:=K43) (body:=K44) (ao) (by kernel_rfl) (by kernel_rfl) (by kernel_rfl) ?_
   intro z lp_2 H19 r40 e41 e42 y43
   refine FE.mono (h z lp_2 H19 e41 e42 (.func (.yield lp_2) #[] #[]) ?_) ?_
   ·clear h
    intro ab x_9 H20 vRy_2 q44 h
    refine y43 #[vi ab,vu x_9] H20 vRy_2 (by kernel_rfl) q44 (λw1x_2=>?_)
    refine T_sd [] [(39,vi ab),(40,vu x_9)]<| ar 12<| T_ed 1 [0,1,30,31,32,38,39] [(11,vi ab)]<| T_rz 13<| T_nd 1 [40] [(12,vu x_9)]<| zq ?_
    obtain⟨q46,h⟩:=h
    refine aE<| iN r40 q46 ?_
    intro a2 e45
    replace h:=h a2 e45
    refine T_bz 5<| ar 14<| T_nd 1 [12] [(41,vu x_9)] ?_
    obtain⟨ak,q47,h⟩:=h
    refine T_l1 42 100 q47 [6]<| T_c (some 43) h ?_;clear h
    rintro bo aq ⟨u,rfl,h⟩
    refine T_pd [41,42] [(43,vi u)]<| T_ed 1 [43] [(13,vi u)]<| ar 15<| T_ed 2 [] [(45,.bool (u !=0))] ?_
    by_cases c48:u=0
    ·rw[if_pos c48]at h
     refine aM 45 (bne_eq_false_iff_eq.mpr c48)<| T_k<| aA ?_
     obtain⟨q50,h⟩:=h
     exact bG r40 q50 h
    rw[if_neg c48]at h
    refine aL 45 (bne_iff_ne.mpr c48)<| ar 16<| T_nd 2 [11,13,45] [(46,vi ab),(47,vi u)] ?_
    obtain⟨q52,h⟩:=h
    refine fB 3 (vi ab) q52 ?_
    intro ap e51
    replace h:=h ap e51
    refine T_pd [4,46] [] ?_
    obtain⟨q54,h⟩:=h
    refine fB 45 (vi u) q54 ?_
    intro a4 e53
    replace h:=h a4 e53
    refine⟨[],pk,?_⟩
    refine T_e<| zx ?_
    show At _ _ _ _ _ (roundPost _ _ _ .ret)
    obtain⟨q55,h⟩:=h
    exact pq r40 q55 h
   clear h y43
   rintro _ a3 (⟨q56,h⟩ | ⟨q56,h⟩)
   ·refine .inl ⟨q56,λah e59=>?_⟩
    replace h:=h ah e59
    refine gR (ag.size::ms) rfl ?_
    exact T_sd [38] []<| aA<| aA<| aE<| T_rz 17<| T_ed 2 [32] [(32,vi (zY (o+1)))]<| js (mk:=(λs_=>s_.2)) (I:=(λs_ H=>aw s_.1 s_.2 H)) (μ:=(λs_ H=>m29 s_.1 s_.2 H)) (s:=(_,_)) (((zY (o+1)),(ag.size::ms)):Int×(List Nat)) sk h
   refine .inr ⟨_,q56,λah e59=>?_⟩
   replace h:=h ah e59
   refine gR (ag.size::ms) rfl ?_
   refine T_sd [38] []<| nZ rfl ?_
   show At _ _ _ _ _ (Q .ret)
   refine iI (fn:=Tryz.f21) (ag.size::ms) hQ (Shut.mono (λa7 h=>?_) h)
   obtain⟨r,q57,bb,q58,h⟩:=h
   exact⟨[vi r,vi bb],(show dF _ _ _ [.cell 4 3,.cell 5 45] _ from .cell (by kernel_rfl) (dP (λ_=>by kernel_rfl) q57) (.cell (by kernel_rfl) (dP (λ_=>by kernel_rfl) q58) (.nil))),h⟩
  rw[if_neg c36]at h
  refine aM 33 (zQ c36)<| zk 2<| aD<| aD<| aQ<| aE<| T_sz<| ar 18<| T_nd 2 [1,30,31,32,33] [(49,vp hv),(50,vs j f e)]<| T_c (some 51) h ?_;clear h
  rintro bp bq ⟨ae,m,p,rfl,h⟩
  refine T_pd [49,50] [(51,vs ae m p)]<| T_ed 2 [] [(52,vi m),(53,vi 0)]<| T_bz 6 ?_
  obtain⟨a6,m62,i60,i61⟩:=h
  refine dE (x:=K61) (σ:=Int) (λs_=> [(0,vp hv),(4,vp (pa b)),(5,vp (pa d)),(6,vp (pa l)),(51,vs ae m p),(52,vi m),(53,vi s_)]) (λs_ H=>a6 s_ H) (λs_ H=>m62 s_ H) (0:Int) (by kernel_rfl) i60 sk ?_
  rintro n H29 i62
  have h:=i61 n H29 i62
  refine T_su [(0,vp hv),(4,vp (pa b)),(5,vp (pa d)),(6,vp (pa l)),(51,vs ae m p),(52,vi m),(53,vi n)]<| ar 19<| T_ed 1 [] [(54,.bool (decide (n< (m:Int))))]<| T_sz ?_
  by_cases c63:n< (m:Int)
  ·rw[if_pos c63]at h
   refine aL 54 (zX c63)<| T_kt<| T_sz<| T_bz 7<| ar 20<| T_ud [54] [] ?_
   obtain⟨q,rfl,q65,h⟩:=h
   refine T_xd (some 55) 29 40 1 q m p .i64 n Tryz.underlying29 q65.1 q65.2 [51] [(51,vs (some q) m p),(55,vp (some (q.add (Int.toNat n*1))))] ?_
   obtain⟨af,q66,h⟩:=h
   refine T_l1 56 40 q66 [55]<| T_ed 1 [56] [(15,vu af)]<| ar 21<| T_nd 1 [15] [(57,vu af)] ?_
   obtain⟨al,q67,h⟩:=h
   refine T_l1 58 100 q67 []<| T_c (some 59) h ?_;clear h
   rintro bu au ⟨y,rfl,h⟩
   refine T_pd [57,58] [(59,vi y)]<| T_ed 1 [59] [(16,vi y)]<| ar 22<| T_ed 2 [] [(61,.bool (y !=0))] ?_
   by_cases c68:y=0
   ·rw[if_pos c68]at h
    exact aM 61 (bne_eq_false_iff_eq.mpr c68)<| T_k<| aA<| aE<| T_rz 24<| T_ed 2 [16,53,61] [(53,vi (zY (n+1)))]<| bK ((zY (n+1)):Int) sk h
   rw[if_neg c68]at h
   refine aL 61 (bne_iff_ne.mpr c68)<| ar 23<| T_nd 1 [0,6,16,51,52,53,61] [(62,vi y)] ?_
   obtain⟨q71,h⟩:=h
   refine fB 3 (vi (-1)) q71 ?_
   intro av e70
   replace h:=h av e70
   refine T_pd [] [] ?_
   obtain⟨q73,h⟩:=h
   refine fB 45 (vi y) q73 ?_
   intro bj e72
   replace h:=h bj e72
   refine T_pd [62] []<| T_e<| zx ?_
   show At _ _ _ _ _ (Q .ret)
   refine iI (fn:=Tryz.f21) (ms) hQ (Shut.mono (λa8 h=>?_) h)
   obtain⟨a9,q74,bc,q75,h⟩:=h
   exact⟨[vi a9,vi bc],(show dF _ _ _ [.cell 4 3,.cell 5 45] _ from .cell (by kernel_rfl) (dP (λ_=>by kernel_rfl) q74) (.cell (by kernel_rfl) (dP (λ_=>by kernel_rfl) q75) (.nil))),h⟩
  rw[if_neg c63]at h
  refine aM 54 (zQ c63)<| zk 6<| aD<| aD<| aQ<| aE<| ar 25<| T_nd 1 [0,6,51,52,53,54] [(64,vp hv)]<| T_c (some 65) h ?_;clear h
  rintro br bf ⟨ra,rb,rfl,h⟩
  refine T_pd [64] [(65,.tuple #[vi ra,vi rb])]<| T_nd 2 [65] [(66,vi ra),(67,vi rb)] ?_
  obtain⟨q77,h⟩:=h
  refine fB 3 (vi ra) q77 ?_
  intro az e76
  replace h:=h az e76
  refine T_pd [66] [] ?_
  obtain⟨q79,h⟩:=h
  refine fB 45 (vi rb) q79 ?_
  intro bd e78
  replace h:=h bd e78
  refine T_pd [67] []<| T_e<| zx ?_
  show At _ _ _ _ _ (Q .ret)
  refine iI (fn:=Tryz.f21) (ms) hQ (Shut.mono (λbk h=>?_) h)
  obtain⟨be,q80,bl,q81,h⟩:=h
  exact⟨[vi be,vi bl],(show dF _ _ _ [.cell 4 3,.cell 5 45] _ from .cell (by kernel_rfl) (dP (λ_=>by kernel_rfl) q80) (.cell (by kernel_rfl) (dP (λ_=>by kernel_rfl) q81) (.nil))),h⟩
 refine .inr ⟨_,q32,λaj e84=>?_⟩
 replace h:=h aj e84
 refine gR (H6.size::[]) rfl ?_
 refine T_sd [19] []<| nZ rfl ?_
 show At _ _ _ _ _ (Q .ret)
 refine iI (fn:=Tryz.f21) (H6.size::[]) hQ (Shut.mono (λbh h=>?_) h)
 obtain⟨ba,q82,bg,q83,h⟩:=h
 exact⟨[vi ba,vi bg],(show dF _ _ _ [.cell 4 3,.cell 5 45] _ from .cell (by kernel_rfl) (dP (λ_=>by kernel_rfl) q82) (.cell (by kernel_rfl) (dP (λ_=>by kernel_rfl) q83) (.nil))),h⟩
end eX

/-! moraine/audit.Same.1 -/
namespace fC
def K0:=Func.code Tryz.f24
end fC
def fC.pt(an r s:Int)(g:zW)(j i:Nat)(al:zW)(am ak:Nat)(u k l:Int)(e:zW)(d f:Nat)(y:zW)(t z:Nat)(H:zV)(R:zv):Prop:=
 ∀(b:Nat) (H1:zV),b=H.size->H1=H.push (.cells #[.int .i64 an,.int .i64 r,.int .u64 s,.slice g j i,.slice al am ak] 61)->
 ∀(a:Nat) (H2:zV),a=H1.size->H2=H1.push (.cells #[.int .i64 u,.int .i64 k,.int .u64 l,.slice e d f,.slice y t z] 61)->
 ∃x:Int,hat H2 (ad b)=some (.int .i64 x)/\
 ∃ab:Int,hat H2 (ad a)=some (.int .i64 ab)/\
 if x=ab then(
 ∃o:Int,hat H2 ((ad b).add 1)=some (.int .i64 o)/\
 ∃aa:Int,hat H2 ((ad a).add 1)=some (.int .i64 aa)/\
 if o=aa then(
 ∃q:Int,hat H2 ((ad b).add 2)=some (.int .u64 q)/\
 ∃ac:Int,hat H2 ((ad a).add 2)=some (.int .u64 ac)/\
 if q=ac then(
 ∃(xB:zW) (xN xC:Nat),hat H2 ((ad b).add 3)=some (.slice xB xN xC)/\
 ∃(aj:zW) (ae af:Nat),hat H2 ((ad a).add 3)=some (.slice aj ae af)/\
 aV.C xB xN xC aj ae af H2 (λv H3=> ∃ao:Bool,v=.bool ao/\
 if ao=true then(
 ∃(p:zW) (m n:Nat),hat H3 ((ad b).add 4)=some (.slice p m n)/\
 ∃(ah:zW) (ag ai:Nat),hat H3 ((ad a).add 4)=some (.slice ah ag ai)/\
 bP.C p m n ah ag ai H3 (λaq H4=> ∃ap:Bool,aq=.bool ap/\
 R (.bool ap) H4))
 else
 R (.bool false) H3))
 else
 R (.bool false) H2)
 else
 R (.bool false) H2)
 else
 R (.bool false) H2
namespace fC
theorem link{an r s:Int}{g:zW}{j i:Nat}{al:zW}{am ak:Nat}{u k l:Int}{e:zW}{d f:Nat}{y:zW}{t z:Nat}{H:zV}{R:zv}(h:pt an r s g j i al am ak u k l e d f y t z H R):C an r s g j i al am ak u k l e d f y t z H R:=by
 refine T_en K0 38 Tryz.func24 ?_
 intro w0 Q hQ
 unfold pt at h
 refine T_su [(0,.agg #[vi an,vi r,vu s,vs g j i,vs al am ak]),(1,.agg #[vi u,vi k,vu l,vs e d f,vs y t z])]<| ar 0<| T_nw (some 2) (λb=>vp (pa b)) (.cells #[vi an,vi r,vu s,vs g j i,vs al am ak] 61) ?_
 intro b H1 e1 e2
 replace h:=h b H1 e1 e2
 refine T_pd [0] [(2,vp (pa b))]<| T_nw (some 3) (λb=>vp (pa b)) (.cells #[vi u,vi k,vu l,vs e d f,vs y t z] 61) ?_
 intro a H2 e3 e4
 replace h:=h a H2 e3 e4
 refine T_pd [1] [(3,vp (pa a))]<| T_ed 1 [] []<| ar 1<| T_nd 1 [] [(5,vp (pa b))] ?_
 obtain⟨x,q5,h⟩:=h
 refine T_l1 6 3 q5 [5]<| T_nd 1 [] [(7,vp (pa a))] ?_
 obtain⟨ab,q6,h⟩:=h
 refine T_l1 8 3 q6 [7]<| T_nd 2 [6,8] [(10,.bool (x==ab))] ?_
 by_cases c7:x=ab
 ·rw[if_pos c7]at h
  refine N_bd 10 (zK c7)<| T_nd 1 [] [(11,vp (some ((ad b).add 1)))] ?_
  obtain⟨o,q9,h⟩:=h
  refine T_l1 12 3 q9 [11]<| T_nd 1 [] [(13,vp (some ((ad a).add 1)))] ?_
  obtain⟨aa,q10,h⟩:=h
  refine T_l1 14 3 q10 [13]<| T_nd 3 [10,12,14] [(17,.bool (o==aa))] ?_
  by_cases c11:o=aa
  ·rw[if_pos c11]at h
   refine N_bd 17 (zK c11)<| T_nd 1 [] [(18,vp (some ((ad b).add 2)))] ?_
   obtain⟨q,q13,h⟩:=h
   refine T_l1 19 35 q13 [18]<| T_nd 1 [] [(20,vp (some ((ad a).add 2)))] ?_
   obtain⟨ac,q14,h⟩:=h
   refine T_l1 21 35 q14 [20]<| T_nd 3 [17,19,21] [(24,.bool (q==ac))] ?_
   by_cases c15:q=ac
   ·rw[if_pos c15]at h
    refine N_bd 24 (zK c15)<| T_nd 1 [] [(25,vp (some ((ad b).add 3)))] ?_
    obtain⟨xB,xN,xC,q17,h⟩:=h
    refine T_l1 26 29 q17 [25]<| T_nd 1 [] [(27,vp (some ((ad a).add 3)))] ?_
    obtain⟨aj,ae,af,q18,h⟩:=h
    refine T_l1 28 29 q18 [27]<| T_c (some 29) h ?_;clear h
    rintro v H3 ⟨ao,rfl,h⟩
    refine T_pd [26,28] [(29,.bool ao)]<| T_nd 2 [24,29] [(31,.bool ao)] ?_
    by_cases c19:ao=true
    ·rw[if_pos c19]at h
     refine N_bd 31 c19<| T_nd 1 [2] [(32,vp (some ((ad b).add 4)))] ?_
     obtain⟨p,m,n,q21,h⟩:=h
     refine T_l1 33 59 q21 [32]<| T_nd 1 [3] [(34,vp (some ((ad a).add 4)))] ?_
     obtain⟨ah,ag,ai,q22,h⟩:=h
     refine T_l1 35 59 q22 [34]<| T_c (some 36) h ?_;clear h
     rintro aq H4 ⟨ap,rfl,h⟩
     exact T_pd [33,35] [(36,.bool ap)]<| T_nr 2 [4] [.bool ap] hQ h
    rw[if_neg c19]at h
    exact N_bd 31 (zZ c19)<| T_nr 7 [4] [.bool false] hQ h
   rw[if_neg c15]at h
   exact N_bd 24 (zJ c15)<| T_nr 14 [4] [.bool false] hQ h
  rw[if_neg c11]at h
  exact N_bd 17 (zJ c11)<| T_nr 21 [4] [.bool false] hQ h
 rw[if_neg c7]at h
 exact N_bd 10 (zJ c7)<| T_nr 28 [4] [.bool false] hQ h
end fC

/-! moraine/audit.come -/
namespace fI
def K0:=Func.code Tryz.f43
def K2:=cb K0
def K4:=cb K2
def K6:=cb K4
def K8:=cb K6
def K9:=ca K8
def K10:=cb K8
def K12:=cb K9
def K13:=ca K12
def K14:=ca K13
def K26:=ca K10
def K29:=cb K26
def K30:=ca K29
def K31:=ca K30
def K33:=cb K31
def K38:=ca K33
def K40:=ca K38
def K41:=ca K40
def K42:=cb K40
def K43:=ca K42
def K44:=ca K43
def K45:=cb K43
end fI
def fI.pt(hv m:zW)(d l:Nat)(H:zV)(R:zv):Prop:=
 ∀(b:Nat) (H1:zV),b=H.size->H1=H.push (.cells #[.pointer hv] 28)->
 ∀(az:Nat) (H2:zV),az=H1.size->H2=H1.push (.map #[] 0)->
 ∀(j:Nat) (H3:zV),j=H2.size->H3=H2.push (.cells #[.map none] 100)->
 (aK H3 (ad j) 0 1)/\ ∀H4,H4=aU H3 (ad j) [.map (some az)] 0->
 ∀(f:Nat) (H5:zV),f=H4.size->H5=H4.push (.cells #[.slice none 0 0] 29)->
 ∀(e:Nat) (H6:zV),e=H5.size->H6=H5.push (.cells #[.nilFunc] 165)->
 (aK H6 (ad e) 0 1)/\ ∀H7,H7=aU H6 (ad e) [.func (.func 93) #[] #[.pointer (some (ad b)),.pointer (some (ad j)),.pointer (some (ad f))]] 0->
 ∃(be:zw) (m15:Int->zV->Nat),be 0 H7/\ ∀(o:Int) (H8:zV),be o H8->
 if o< (d:Int)then(
 ∃n:Addr,m=some n/\
 yZ o d/\
 ∃x:Int,hat H8 (n.add (Int.toNat o*1))=some (.int .u64 x)/\
 ∃a5:Value,hat H8 (ad e)=some (a5)/\
 FC Tryz.prog a5 #[.int .u64 x] H8 (λ_ H9=>
 (be (zY (o+1)) H9/\m15 (zY (o+1)) H9<m15 o H8)))
 else
 ∀(am:Nat) (H10:zV),am=H8.size->H10=H8.push (.cells #[.int .i64 0] 3)->
 (aK H10 (ad am) 0 1)/\ ∀bh,bh=aU H10 (ad am) [.int .i64 0] 0->
 ∃(bb:zW->(List Nat)->zV->Prop) (m32:zW->(List Nat)->zV->Nat),bb (some (ad am)) ([]) bh/\ ∀(i:zW) (ms:List Nat) (H12:zV),bb i ms H12->
 ∃iA:Addr,i=some iA/\
 ∃au:Int,hat H12 iA=some (.int .i64 au)/\
 ∃(xB:zW) (xN xC:Nat),hat H12 (ad f)=some (.slice xB xN xC)/\
 if au< (xN:Int)then(
 ∃ai:zW,hat H12 (ad b)=some (.pointer ai)/\
 ∃(bg:zW) (ag ao:Nat),hat H12 (ad f)=some (.slice bg ag ao)/\
 ∃ac:Int,hat H12 iA=some (.int .i64 ac)/\
 ∃r:Addr,bg=some r/\
 yZ ac ag/\
 ∃ba:Int,hat H12 (r.add (Int.toNat ac*1))=some (.int .u64 ba)/\
 bA.C ai ba H12 (λa4 a8=>a4=a4/\
 ∀(rc:LoopState->Option Code->Obj) (lp:Nat) (H14:zV),lp=a8.size+1->H14=(a8.push (.deferred (some []))).push (rc .ready none)->
 ∀vY:Value,(∀(p:Int) (x_9:Int) (H15:zV) (vRy:zv),H15[lp]?=some (rc .ready none)->
 (H15[lp]?=some (rc .ready none)/\ ∀a9:zV,a9=aF H15 lp (rc .busy none)->
 ∃(a1:zW) (ak aw:Nat),hat a9 (ad f)=some (.slice a1 ak aw)/\
 ∃u:Int,hat a9 iA=some (.int .i64 u)/\
 ∃aj:Addr,a1=some aj/\
 yZ u ak/\
 ∃a2:Int,hat a9 (aj.add (Int.toNat u*1))=some (.int .u64 a2)/\
 bZ.C a2 a9 (λbl a7=> ∃al:Int,bl=.int .i64 al/\
 if al=2 then(
 ∃(a3:zW) (aq ay:Nat),hat a7 (ad f)=some (.slice a3 aq ay)/\
 ∃y:Int,hat a7 iA=some (.int .i64 y)/\
 ∃an:Addr,a3=some an/\
 yZ y aq/\
 ∃a0:Int,hat a7 (an.add (Int.toNat y*1))=some (.int .u64 a0)/\
 cV.C a0 a7 (λbn bf=> ∃ap:Int,bn=.int .i64 ap/\
 if p>ap then(
 ∃av:Value,hat bf (ad e)=some (av)/\
 FC Tryz.prog av #[.int .u64 x_9] bf (λ_ bj=>
 bj[lp]?=some (rc .busy none)/\
 vRy (.bool true) (aF bj lp (rc .ready none))))
 else
 bf[lp]?=some (rc .busy none)/\
 vRy (.bool true) (aF bf lp (rc .ready none))))
 else
 ∃ax:Value,hat a7 (ad e)=some (ax)/\
 FC Tryz.prog ax #[.int .u64 x_9] a7 (λ_ bk=>
 bk[lp]?=some (rc .busy none)/\
 vRy (.bool true) (aF bk lp (rc .ready none)))))->
 FC Tryz.prog vY #[.int .i64 p,.int .u64 x_9] H15 vRy)->
 FE Tryz.prog a4 #[vY] H14 (λ_ bi=>
 (bi[lp]?=some (rc .ready none)/\ ∀bc:zV,bc=aF bi lp (rc .exhausted none)->
 ∃af:Int,hat bc iA=some (.int .i64 af)/\
 ∀(q:Nat) (H23:zV),q=bc.size->H23=bc.push (.cells #[.int .i64 0] 3)->
 (aK H23 (ad q) 0 1)/\ ∀a6,a6=aU H23 (ad q) [.int .i64 af] 0->
 ∃ah:Int,hat a6 (ad q)=some (.int .i64 ah)/\
 (aK a6 (ad q) 0 1)/\ ∀bd,bd=aU a6 (ad q) [.int .i64 (zY (ah+1))] 0->
 (bb (some (ad q)) (a8.size::ms) bd/\m32 (some (ad q)) (a8.size::ms) bd<m32 i ms H12)))))
 else
 ∃(ab:zW) (aa z:Nat),hat H12 (ad f)=some (.slice ab aa z)/\
 ∃ae:Option Nat,hat H12 (ad j)=some (.map ae)/\
 Shut (ms) H12 (λbm=>
 R (.tuple #[.slice ab aa z,.map ae]) bm)
namespace fI
theorem link{hv m:zW}{d l:Nat}{H:zV}{R:zv}(h:pt hv m d l H R):C hv m d l H R:=by
 refine T_en K0 61 Tryz.func43 ?_
 intro w0 Q hQ
 unfold pt zY at h
 refine T_su [(0,vp hv),(1,vs m d l)]<| ar 0<| T_nw (some 2) (λb=>vp (pa b)) (.cells #[vp hv] 28) ?_
 intro b H1 e1 e2
 replace h:=h b H1 e1 e2
 refine T_pd [0] [(2,vp (pa b))]<| T_ed 2 [] []<| ar 1<| T_nw (some 14) (λb=> .map (some b)) (.map #[] 0) ?_
 intro az H2 e3 e4
 replace h:=h az H2 e3 e4
 refine T_pd [] [(14,.map (some az))]<| T_nw (some 6) (λb=>vp (pa b)) (.cells #[.map none] 100) ?_
 intro j H3 e5 e6
 replace h:=h j H3 e5 e6
 refine T_pd [] [(6,vp (pa j))] ?_
 obtain⟨q8,h⟩:=h
 refine fB 100 (.map (some az)) q8 ?_
 intro H4 e7
 replace h:=h H4 e7
 refine T_pd [14] []<| T_e<| ar 2<| T_nw (some 7) (λb=>vp (pa b)) (.cells #[vs none 0 0] 29) ?_
 intro f H5 e9 e10
 replace h:=h f H5 e9 e10
 refine T_pd [] [(7,vp (pa f))]<| T_e<| ar 3<| T_nd 1 [] [(15,.func (.func 93) #[] #[vp (pa b),vp (pa j),vp (pa f)])]<| T_nw (some 8) (λb=>vp (pa b)) (.cells #[.nilFunc] 165) ?_
 intro e H6 e11 e12
 replace h:=h e H6 e11 e12
 refine T_pd [] [(8,vp (pa e))] ?_
 obtain⟨q14,h⟩:=h
 refine fB 165 (.func (.func 93) #[] #[vp (pa b),vp (pa j),vp (pa f)]) q14 ?_
 intro H7 e13
 replace h:=h H7 e13
 refine T_pd [15] []<| T_e<| T_sz<| ar 4<| T_ed 3 [1] [(16,vs m d l),(17,vi d),(18,vi 0)]<| T_bz 0 ?_
 obtain⟨be,m15,i15,i16⟩:=h
 refine dE (x:=K14) (σ:=Int) (λs_=> [(2,vp (pa b)),(6,vp (pa j)),(7,vp (pa f)),(8,vp (pa e)),(16,vs m d l),(17,vi d),(18,vi s_)]) (λs_ H=>be s_ H) (λs_ H=>m15 s_ H) (0:Int) (by kernel_rfl) i15 sk ?_
 rintro o H8 i17
 have h:=i16 o H8 i17
 refine T_su [(2,vp (pa b)),(6,vp (pa j)),(7,vp (pa f)),(8,vp (pa e)),(16,vs m d l),(17,vi d),(18,vi o)]<| ar 5<| T_ed 1 [] [(19,.bool (decide (o< (d:Int))))]<| T_sz ?_
 by_cases c18:o< (d:Int)
 ·rw[if_pos c18]at h
  refine aL 19 (zX c18)<| T_kt<| T_sz<| T_bz 1<| ar 6<| T_ud [19] [] ?_
  obtain⟨n,rfl,q20,h⟩:=h
  refine T_xd (some 20) 29 40 1 n d l .i64 o Tryz.underlying29 q20.1 q20.2 [16] [(16,vs (some n) d l),(20,vp (some (n.add (Int.toNat o*1))))] ?_
  obtain⟨x,q21,h⟩:=h
  refine T_l1 21 40 q21 [20]<| T_ed 1 [21] [(10,vu x)]<| T_rz 7 ?_
  obtain⟨a5,q22,h⟩:=h
  refine T_l1 22 165 q22 []<| T_nd 1 [10] [(23,vu x)]<| jy (some 24) a5 #[vu x] (λ_=>by kernel_rfl) h ?_;clear h
  intro v H9 h
  exact T_pd [22,23] []<| zq<| aA<| aE<| T_rz 8<| T_ed 2 [18] [(18,vi (zY (o+1)))]<| bK ((zY (o+1)):Int) sk h
 rw[if_neg c18]at h
 refine aM 19 (zQ c18)<| zk 0<| aD<| aD<| aQ<| aE<| T_sz<| ar 9<| T_ud [16,17,18,19] []<| T_nw (some 11) (λb=>vp (pa b)) (.cells #[vi 0] 3) ?_
 intro am H10 e23 e24
 replace h:=h am H10 e23 e24
 refine T_pd [] [(11,vp (pa am))] ?_
 obtain⟨q26,h⟩:=h
 refine fB 3 (vi 0) q26 ?_
 intro bh e25
 replace h:=h bh e25
 refine T_pd [] []<| T_e<| T_bz 2 ?_
 obtain⟨bb,m32,i27,i28⟩:=h
 refine mw (x:=K31) (σ:=zW×(List Nat)) (λs_=> [(2,vp (pa b)),(6,vp (pa j)),(7,vp (pa f)),(8,vp (pa e)),(11,vp s_.1)]) (λs_=>s_.2) (λs_ H=>bb s_.1 s_.2 H) (λs_ H=>m32 s_.1 s_.2 H) (((pa am),([])):zW×(List Nat)) (by kernel_rfl) i27 sk ?_
 rintro⟨i,ms⟩ H12 i29
 have h:=i28 i ms H12 i29
 refine T_su [(2,vp (pa b)),(6,vp (pa j)),(7,vp (pa f)),(8,vp (pa e)),(11,vp i)]<| T_sz<| ar 10 ?_
 obtain⟨iA,rfl,au,q30,h⟩:=h
 refine T_ld (some 26) 3 q30 [11] [(11,vp (some iA)),(26,vi au)] ?_
 obtain⟨xB,xN,xC,q31,h⟩:=h
 refine T_l1 27 29 q31 []<| T_ed 2 [26,27] [(29,.bool (decide (au< (xN:Int))))] ?_
 by_cases c32:au< (xN:Int)
 ·rw[if_pos c32]at h
  refine aL 29 (zX c32)<| T_kt<| T_sz<| T_bz 3<| T_sz ?_
  obtain⟨ai,q34,bg,ag,ao,q35,ac,q36,r,rfl,q37,ba,q38,h⟩:=h
  refine yq 12 (Code.ops K41) [(5,(ad b),[vp ai]),(5,(ad f),[vs (some r) ag ao]),(5,iA,[vi ac]),(5,(r.add (Int.toNat ac*1)),[vu ba])] 6 (bv 6 0) (show aJ _ _ _ from⟨⟨q34,trivial⟩,⟨q35,trivial⟩,⟨q36,trivial⟩,⟨q38,trivial⟩,trivial⟩)<| T_g 0 (some 32) (vp ai) (bv 6 1) [(2,vp (pa b)),(6,vp (pa j)),(7,vp (pa f)),(8,vp (pa e)),(11,vp (some iA)),(32,vp ai)] (bH 28 (vp (pa b))) (yY 5 yX)<| T_g1 1 33 (vs (some r) ag ao) (bv 6 3) [] (bH 29 (vp (pa f))) (yY 5 yQ)<| T_g1 2 34 (vi ac) (bv 6 7) [] (bH 3 (vp (some iA))) (yY 5 yJ)<| T_g1 3 35 (vp (some (r.add (Int.toNat ac*1)))) (bv 6 15) [33,34] (aZ 29 (vs (some r) ag ao) (vi ac)) (λ_ w _ _ _=>bL (P:=Tryz.prog) (t:=29) (elem:=40) (sz:=1) (a:=r) (len:=ag) (cap:=ao) (k:=.i64) (i:=ac) Tryz.underlying29 (λ_=>by kernel_rfl) q37.1 q37.2 w)<| T_g1 4 36 (vu ba) (bv 6 31) [35] (bH 40 (vp (some (r.add (Int.toNat ac*1))))) (yY 5 yK)<| yx 5 (some 37) (bv 6 63) 49 #[vp ai,vu ba] h ?_;clear h
  rintro a4 a8 ⟨-,h⟩
  refine⟨[(2,vp (pa b)),(6,vp (pa j)),(7,vp (pa f)),(8,vp (pa e)),(11,vp (some iA)),(37,a4)],pk,(show aJ _ _ _ from⟨trivial,trivial,trivial,trivial,trivial⟩),?_⟩
  refine gT [(2,vp (pa b)),(6,vp (pa j)),(7,vp (pa f)),(8,vp (pa e)),(11,vp (some iA)),(37,a4)] sk ?_
  refine yz<| aE<| T_bz 4<| iO (g:=.tmp 37) (ps:= #[38,39]) (assign:=K44) (body:=K45) (a4) (by kernel_rfl) (by kernel_rfl) (by kernel_rfl) ?_
  intro rc lp H14 r39 e40 e41 y42
  refine FE.mono (h rc lp H14 e40 e41 (.func (.yield lp) #[] #[]) ?_) ?_
  ·clear h
   intro p x_9 H15 vRy q43 h
   refine y42 #[vi p,vu x_9] H15 vRy (by kernel_rfl) q43 (λw1x=>?_)
   refine T_su [(2,vp (pa b)),(6,vp (pa j)),(7,vp (pa f)),(8,vp (pa e)),(11,vp (some iA)),(37,a4),(38,vi p),(39,vu x_9)]<| ar 13<| T_ed 1 [2,6,37,38] [(12,vi p)]<| T_rz 14<| T_nd 1 [39] [(13,vu x_9)]<| zq ?_
   obtain⟨q45,h⟩:=h
   refine aE<| iN r39 q45 ?_
   intro a9 e44
   replace h:=h a9 e44
   refine T_bz 5<| ar 15 ?_
   obtain⟨a1,ak,aw,q46,h⟩:=h
   refine T_l1 40 29 q46 [] ?_
   obtain⟨u,q47,h⟩:=h
   refine T_l1 41 3 q47 [] ?_
   obtain⟨aj,rfl,q48,h⟩:=h
   refine T_xd (some 42) 29 40 1 aj ak aw .i64 u Tryz.underlying29 q48.1 q48.2 [40,41] [(42,vp (some (aj.add (Int.toNat u*1))))] ?_
   obtain⟨a2,q49,h⟩:=h
   refine T_l1 43 40 q49 [42]<| T_c (some 44) h ?_;clear h
   rintro bl a7 ⟨al,rfl,h⟩
   refine T_pd [43] [(44,vi al)]<| T_nd 2 [44] [(46,.bool (al !=2))] ?_
   by_cases c50:al=2
   ·rw[if_pos c50]at h
    refine N_bd 46 (bne_eq_false_iff_eq.mpr c50)<| T_nd 1 [12] [(47,vi p)] ?_
    obtain⟨a3,aq,ay,q52,h⟩:=h
    refine T_l1 48 29 q52 [7] ?_
    obtain⟨y,q53,h⟩:=h
    refine T_l1 49 3 q53 [11] ?_
    obtain⟨an,rfl,q54,h⟩:=h
    refine T_xd (some 50) 29 40 1 an aq ay .i64 y Tryz.underlying29 q54.1 q54.2 [48,49] [(50,vp (some (an.add (Int.toNat y*1))))] ?_
    obtain⟨a0,q55,h⟩:=h
    refine T_l1 51 40 q55 [50]<| T_c (some 52) h ?_;clear h
    rintro bn bf ⟨ap,rfl,h⟩
    refine T_pd [51] [(52,vi ap)]<| T_ed 2 [46,47,52] [(54,.bool (decide (p>ap)))] ?_
    by_cases c56:p>ap
    ·rw[if_pos c56]at h
     refine aL 54 (zX c56)<| T_rz 16<| T_ud [54] [] ?_
     obtain⟨av,q58,h⟩:=h
     refine T_l1 55 165 q58 [8]<| T_nd 1 [13] [(56,vu x_9)]<| jy (some 57) av #[vu x_9] (λ_=>by kernel_rfl) h ?_;clear h
     intro v_5 bj h
     refine⟨[],pk,?_⟩
     refine zq<| aA ?_
     obtain⟨q59,h⟩:=h
     exact bG r39 q59 h
    rw[if_neg c56]at h
    refine aM 54 (zQ c56)<| T_k<| aA ?_
    obtain⟨q60,h⟩:=h
    exact bG r39 q60 h
   rw[if_neg c50]at h
   refine N_bd 46 (bne_iff_ne.mpr c50)<| T_ed 8 [7,11,12,46] [(54,.bool true)]<| T_tz 54<| T_rz 16<| T_ud [54] [] ?_
   obtain⟨ax,q61,h⟩:=h
   refine T_l1 55 165 q61 [8]<| T_nd 1 [13] [(56,vu x_9)]<| jy (some 57) ax #[vu x_9] (λ_=>by kernel_rfl) h ?_;clear h
   intro v_6 bk h
   refine⟨[],pk,?_⟩
   refine zq<| aA ?_
   obtain⟨q62,h⟩:=h
   exact bG r39 q62 h
  clear h y42
  rintro _ bi (⟨q63,h⟩)
  refine .inl ⟨q63,λbc e72=>?_⟩
  replace h:=h bc e72
  refine gR (a8.size::ms) rfl ?_
  refine T_su [(2,vp (pa b)),(6,vp (pa j)),(7,vp (pa f)),(8,vp (pa e)),(11,vp (some iA))]<| aA<| aA<| aE<| T_sz<| ar 17 ?_
  obtain⟨af,q64,h⟩:=h
  refine T_l1 58 3 q64 [11]<| T_e<| T_rz 18<| T_nw (some 11) (λb=>vp (pa b)) (.cells #[vi 0] 3) ?_
  intro q H23 e65 e66
  replace h:=h q H23 e65 e66
  refine T_pd [] [(11,vp (pa q))] ?_
  obtain⟨q68,h⟩:=h
  refine fB 3 (vi af) q68 ?_
  intro a6 e67
  replace h:=h a6 e67
  refine T_pd [58] []<| T_e<| T_rz 11 ?_
  obtain⟨ah,q69,h⟩:=h
  refine T_l1 30 3 q69 []<| T_nd 1 [30] [(31,vi (zY (ah+1)))] ?_
  obtain⟨q71,h⟩:=h
  refine fB 3 (vi (zY (ah+1))) q71 ?_
  intro bd e70
  replace h:=h bd e70
  exact T_pd [31] []<| T_e<| js (mk:=(λs_=>s_.2)) (I:=(λs_ H=>bb s_.1 s_.2 H)) (μ:=(λs_ H=>m32 s_.1 s_.2 H)) (s:=(_,_)) (((pa q),(a8.size::ms)):zW×(List Nat)) sk h
 rw[if_neg c32]at h
 refine aM 29 (zQ c32)<| zk 2<| aD<| aD<| aQ<| aE<| T_sz<| ky 19 ?_
 obtain⟨ab,aa,z,q73,h⟩:=h
 refine T_ql (some 59) 29 q73 [(6,vp (pa j)),(59,vs ab aa z)] ?_
 obtain⟨ae,q74,h⟩:=h
 refine jO (some 60) 100 q74 [6] [(60,.map ae)]<| T_q1 4 (vs ab aa z) [59]<| T_q1 5 (.map ae) [60]<| jN [(4,vs ab aa z),(5,.map ae)] sk<| T_qe<| zx ?_
 show At _ _ _ _ _ (Q .ret)
 refine iI (fn:=Tryz.f43) (ms) hQ (Shut.mono (λbm h=>?_) h)
 exact⟨[vs ab aa z,.map ae],(show dF _ _ _ [.tmp 4,.tmp 5] _ from .tmp (by kernel_rfl) (.tmp (by kernel_rfl) (.nil))),h⟩
end fI

/-! moraine/audit.put -/
namespace aT
def K0:=Func.code Tryz.f45
end aT
def aT.pt(nv:zW)(wv d:Int)(H:zV)(R:zv):Prop:=
 if d=0 then(
 ∃e:Addr,nv=some e/\
 ∃(xB:zW) (xN xC:Nat),hat H (e.add 3)=some (.slice xB xN xC)/\
 ∀(b:Nat) (H1:zV),b=H.size->H1=H.push (.cells #[.int .u64 wv] 40)->
 dH 1 40 8 [.int .u64 0] xB xN xC (some (ad b)) 1 H1 (λap v H2=>
 (aK H2 (e.add 3) 0 1)/\ ∀H3,H3=aU H2 (e.add 3) [.slice ap (xN+1) v] 0->
 ∃(p:zW) (f n:Nat),hat H3 (e.add 4)=some (.slice p f n)/\
 ∀(y:Nat) (H4:zV),y=H3.size->H4=H3.push (.cells #[.int .i64 d] 3)->
 dH 1 3 8 [.int .i64 0] p f n (some (ad y)) 1 H4 (λt k H5=>
 (aK H5 (e.add 4) 0 1)/\ ∀H6,H6=aU H5 (e.add 4) [.slice t (f+1) k] 0->
 R (.tuple #[]) H6)))
 else
 ∃a:Addr,nv=some a/\
 ∃(o:zW) (g m:Nat),hat H (a.add 3)=some (.slice o g m)/\
 ∀(z:Nat) (H7:zV),z=H.size->H7=H.push (.cells #[.int .u64 0] 40)->
 dH 1 40 8 [.int .u64 0] o g m (some (ad z)) 1 H7 (λs l H8=>
 (aK H8 (a.add 3) 0 1)/\ ∀H9,H9=aU H8 (a.add 3) [.slice s (g+1) l] 0->
 ∃(q:zW) (i r:Nat),hat H9 (a.add 4)=some (.slice q i r)/\
 ∀(x:Nat) (H10:zV),x=H9.size->H10=H9.push (.cells #[.int .i64 d] 3)->
 dH 1 3 8 [.int .i64 0] q i r (some (ad x)) 1 H10 (λu j ab=>
 (aK ab (a.add 4) 0 1)/\ ∀aa,aa=aU ab (a.add 4) [.slice u (i+1) j] 0->
 R (.tuple #[]) aa))
namespace aT
theorem link{nv:zW}{wv d:Int}{H:zV}{R:zv}(h:pt nv wv d H R):C nv wv d H R:=by
 refine T_en K0 28 Tryz.func45 ?_
 intro w0 Q hQ
 unfold pt at h
 refine T_su [(0,vp nv),(1,vu wv),(2,vi d)]<| T_sz<| ar 0<| T_ed 2 [] [(7,.bool (d !=0))] ?_
 by_cases c1:d=0
 ·rw[if_pos c1]at h
  refine aM 7 (bne_eq_false_iff_eq.mpr c1)<| T_kt<| ar 2<| T_nd 2 [7] [(8,vp nv),(9,vp nv)] ?_
  obtain⟨e,rfl,h⟩:=h
  refine T_nd 2 [0,8,9] [(0,vp (some e)),(8,vp (some e)),(11,vp (some (e.add 3)))] ?_
  obtain⟨xB,xN,xC,q3,h⟩:=h
  refine T_l1 12 29 q3 [11]<| T_nd 1 [1] [(13,vu wv)]<| T_nw (some 14) (λb=>vs (pa b) 1 1) (.cells #[vu wv] 40) ?_
  intro b H1 e4 e5
  replace h:=h b H1 e4 e5
  refine T_pd [13] [(14,vs (pa b) 1 1)]<| N_op (some 15) (eJ #[29,29] 29 #[vs xB xN xC,vs (pa b) 1 1]) _ (λ_=>by kernel_rfl) (dM (T:=40) (sz:=1) (bytes:=8) (zero:=(vu 0:Value)) Tryz.underlying29 Tryz.underlying29 rfl (show Tryz.prog.info? 40=some Tryz.t40 from by kernel_rfl) (by kernel_rfl) (by kernel_rfl) (by decide) (by kernel_rfl) (by first | exact h | (simpa only[Value.cells,List.toList_toArray]using h))) ?_;clear h
  rintro _ H2 ⟨ap,v,rfl,h⟩
  refine T_pd [12,14] [(15,vs ap (xN+1) v)]<| T_nd 2 [8] [(17,vp (some (e.add 3)))] ?_
  obtain⟨q7,h⟩:=h
  refine fB 29 (vs ap (xN+1) v) q7 ?_
  intro H3 e6
  replace h:=h H3 e6
  refine T_pd [15,17] []<| T_e<| T_rz 3<| T_nd 4 [0] [(18,vp (some e)),(21,vp (some (e.add 4)))] ?_
  obtain⟨p,f,n,q8,h⟩:=h
  refine T_l1 22 59 q8 [21]<| T_nd 1 [2] [(23,vi d)]<| T_nw (some 24) (λb=>vs (pa b) 1 1) (.cells #[vi d] 3) ?_
  intro y H4 e9 e10
  replace h:=h y H4 e9 e10
  refine T_pd [23] [(24,vs (pa y) 1 1)]<| N_op (some 25) (eJ #[59,59] 59 #[vs p f n,vs (pa y) 1 1]) _ (λ_=>by kernel_rfl) (dM (T:=3) (sz:=1) (bytes:=8) (zero:=(vi 0:Value)) Tryz.underlying59 Tryz.underlying59 rfl (show Tryz.prog.info? 3=some Tryz.t3 from by kernel_rfl) (by kernel_rfl) (by kernel_rfl) (by decide) (by kernel_rfl) (by first | exact h | (simpa only[Value.cells,List.toList_toArray]using h))) ?_;clear h
  rintro _ H5 ⟨t,k,rfl,h⟩
  refine T_pd [22,24] [(25,vs t (f+1) k)]<| T_nd 2 [18] [(27,vp (some (e.add 4)))] ?_
  obtain⟨q12,h⟩:=h
  refine fB 59 (vs t (f+1) k) q12 ?_
  intro H6 e11
  replace h:=h H6 e11
  refine⟨[],pk,?_⟩
  exact zq<| iJ (fn:=Tryz.f45) [] hQ (show dF _ _ _ [] _ from .nil) h
 rw[if_neg c1]at h
 refine aL 7 (bne_iff_ne.mpr c1)<| T_rz 1<| T_ed 1 [1,7] [(1,vu 0)]<| ar 2<| T_nd 2 [] [(8,vp nv),(9,vp nv)] ?_
 obtain⟨a,rfl,h⟩:=h
 refine T_nd 2 [0,8,9] [(0,vp (some a)),(8,vp (some a)),(11,vp (some (a.add 3)))] ?_
 obtain⟨o,g,m,q13,h⟩:=h
 refine T_l1 12 29 q13 [11]<| T_nd 1 [1] [(13,vu 0)]<| T_nw (some 14) (λb=>vs (pa b) 1 1) (.cells #[vu 0] 40) ?_
 intro z H7 e14 e15
 replace h:=h z H7 e14 e15
 refine T_pd [13] [(14,vs (pa z) 1 1)]<| N_op (some 15) (eJ #[29,29] 29 #[vs o g m,vs (pa z) 1 1]) _ (λ_=>by kernel_rfl) (dM (T:=40) (sz:=1) (bytes:=8) (zero:=(vu 0:Value)) Tryz.underlying29 Tryz.underlying29 rfl (show Tryz.prog.info? 40=some Tryz.t40 from by kernel_rfl) (by kernel_rfl) (by kernel_rfl) (by decide) (by kernel_rfl) (by first | exact h | (simpa only[Value.cells,List.toList_toArray]using h))) ?_;clear h
 rintro _ H8 ⟨s,l,rfl,h⟩
 refine T_pd [12,14] [(15,vs s (g+1) l)]<| T_nd 2 [8] [(17,vp (some (a.add 3)))] ?_
 obtain⟨q17,h⟩:=h
 refine fB 29 (vs s (g+1) l) q17 ?_
 intro H9 e16
 replace h:=h H9 e16
 refine T_pd [15,17] []<| T_e<| T_rz 3<| T_nd 4 [0] [(18,vp (some a)),(21,vp (some (a.add 4)))] ?_
 obtain⟨q,i,r,q18,h⟩:=h
 refine T_l1 22 59 q18 [21]<| T_nd 1 [2] [(23,vi d)]<| T_nw (some 24) (λb=>vs (pa b) 1 1) (.cells #[vi d] 3) ?_
 intro x H10 e19 e20
 replace h:=h x H10 e19 e20
 refine T_pd [23] [(24,vs (pa x) 1 1)]<| N_op (some 25) (eJ #[59,59] 59 #[vs q i r,vs (pa x) 1 1]) _ (λ_=>by kernel_rfl) (dM (T:=3) (sz:=1) (bytes:=8) (zero:=(vi 0:Value)) Tryz.underlying59 Tryz.underlying59 rfl (show Tryz.prog.info? 3=some Tryz.t3 from by kernel_rfl) (by kernel_rfl) (by kernel_rfl) (by decide) (by kernel_rfl) (by first | exact h | (simpa only[Value.cells,List.toList_toArray]using h))) ?_;clear h
 rintro _ ab ⟨u,j,rfl,h⟩
 refine T_pd [22,24] [(25,vs u (i+1) j)]<| T_nd 2 [18] [(27,vp (some (a.add 4)))] ?_
 obtain⟨q22,h⟩:=h
 refine fB 59 (vs u (i+1) j) q22 ?_
 intro aa e21
 replace h:=h aa e21
 refine⟨[],pk,?_⟩
 exact zq<| iJ (fn:=Tryz.f45) [] hQ (show dF _ _ _ [] _ from .nil) h
end aT

/-! moraine/audit.fields -/
namespace bA
def K0:=Func.code Tryz.f49
end bA
def bA.pt(hv:zW)(wv:Int)(H:zV)(R:zv):Prop:=
 ∀(b:Nat) (H1:zV),b=H.size->H1=H.push (.cells #[.pointer hv] 28)->
 ∀(a:Nat) (H2:zV),a=H1.size->H2=H1.push (.cells #[.int .u64 wv] 40)->
 R (.func (.func 97) #[] #[.pointer (some (ad b)),.pointer (some (ad a))]) H2
namespace bA
theorem link{hv:zW}{wv:Int}{H:zV}{R:zv}(h:pt hv wv H R):C hv wv H R:=by
 refine T_en K0 6 Tryz.func49 ?_
 intro w0 Q hQ
 unfold pt at h
 refine T_su [(0,vp hv),(1,vu wv)]<| ar 0<| T_nw (some 2) (λb=>vp (pa b)) (.cells #[vp hv] 28) ?_
 intro b H1 e1 e2
 replace h:=h b H1 e1 e2
 refine T_pd [0] [(2,vp (pa b))]<| T_nw (some 3) (λb=>vp (pa b)) (.cells #[vu wv] 40) ?_
 intro a H2 e3 e4
 replace h:=h a H2 e3 e4
 exact T_pd [1] [(3,vp (pa a))]<| T_ed 1 [] []<| ar 1<| T_nr 2 [4] [.func (.func 97) #[] #[vp (pa b),vp (pa a)]] hQ h
end bA

/-! moraine/audit.at -/
namespace cV
def K0:=Func.code Tryz.f50
end cV
def cV.pt(wv:Int)(H:zV)(R:zv):Prop:=
 fN.C wv H (λv H1=> ∃(ra:Int) (rb:Bool),v=.tuple #[.int .i64 ra,.bool rb]/\
 R (.int .i64 ra) H1)
namespace cV
theorem link{wv:Int}{H:zV}{R:zv}(h:pt wv H R):C wv H R:=by
 refine T_en K0 11 Tryz.func50 ?_
 intro w0 Q hQ
 unfold pt at h
 refine T_su [(0,vu wv)]<| ar 0<| T_ed 1 [] []<| ar 1<| T_n 1 [(6,vu wv)]<| T_c (some 7) h ?_;clear h
 rintro v H1 ⟨ra,rb,rfl,h⟩
 refine⟨[(7,.tuple #[vi ra,.bool rb])],pk,?_⟩
 exact T_ne 5 [(3,vi ra)]<| ar 2<| T_nr 2 [2] [vi ra] hQ h
end cV

/-! moraine/audit.things -/
namespace cW
def K0:=Func.code Tryz.f55
end cW
def cW.pt(hv:zW)(H:zV)(R:zv):Prop:=
 ∀(b:Nat) (H1:zV),b=H.size->H1=H.push (.cells #[.pointer hv] 28)->
 R (.func (.func 101) #[] #[.pointer (some (ad b))]) H1
namespace cW
theorem link{hv:zW}{H:zV}{R:zv}(h:pt hv H R):C hv H R:=by
 refine T_en K0 4 Tryz.func55 ?_
 intro w0 Q hQ
 unfold pt at h
 refine T_su [(0,vp hv)]<| ar 0<| T_nw (some 1) (λb=>vp (pa b)) (.cells #[vp hv] 28) ?_
 intro b H1 e1 e2
 replace h:=h b H1 e1 e2
 refine⟨[(1,vp (pa b))],pk,?_⟩
 exact T_ed 1 [] []<| ar 1<| T_nr 2 [2] [.func (.func 101) #[] #[vp (pa b)]] hQ h
end cW

/-! moraine/audit.fault -/
namespace cY
def K0:=Func.code Tryz.f56
end cY
def cY.pt(wv:Int)(a:Option Nat)(H:zV)(R:zv):Prop:=
 bZ.C wv H (λv H1=> ∃x:Int,v=.int .i64 x/\
 if x=5 then(
 R (.int .i64 1) H1)
 else
 if x=6 then(
 R (.int .i64 1) H1)
 else
 if x=1 then(
 cJ.C wv H1 (λak H2=> ∃o:Bool,ak=.bool o/\
 if o=true then(
 ∃mr:Nat,a=some mr/\
 ∃(es:Array MapEntry) (cl:Nat) (ks:List (Int×Value)),H2[mr]?=some (.map es cl)/\Ents (bT .u64) es.toList ks/\
 ∃m:Int,(mget ks wv).getD (.int .i64 0)=.int .i64 m/\
 if m=0 then(
 R (.int .i64 18) H2)
 else
 cJ.C wv H2 (λaf H3=> ∃i:Bool,af=.bool i/\
 if i=true then(
 R (.int .i64 0) H3)
 else
 R (.int .i64 1) H3))
 else
 cJ.C wv H2 (λaj H4=> ∃k:Bool,aj=.bool k/\
 if k=true then(
 R (.int .i64 0) H4)
 else
 R (.int .i64 1) H4)))
 else
 if x=2 then(
 cJ.C wv H1 (λag H5=> ∃p:Bool,ag=.bool p/\
 if p=true then(
 ∃r:Nat,a=some r/\
 ∃(t:Array MapEntry) (cl_2:Nat) (ks_2:List (Int×Value)),H5[r]?=some (.map t cl_2)/\Ents (bT .u64) t.toList ks_2/\
 ∃n:Int,(mget ks_2 wv).getD (.int .i64 0)=.int .i64 n/\
 if n=0 then(
 R (.int .i64 18) H5)
 else
 cJ.C wv H5 (λah H6=> ∃l:Bool,ah=.bool l/\
 if l=true then(
 R (.int .i64 0) H6)
 else
 R (.int .i64 1) H6))
 else
 cJ.C wv H5 (λac H7=> ∃j:Bool,ac=.bool j/\
 if j=true then(
 R (.int .i64 0) H7)
 else
 R (.int .i64 1) H7)))
 else
 if x=3 then(
 cJ.C wv H1 (λai H8=> ∃g:Bool,ai=.bool g/\
 if g=true then(
 ∃q:Nat,a=some q/\
 ∃(s:Array MapEntry) (cl_3:Nat) (ks_3:List (Int×Value)),H8[q]?=some (.map s cl_3)/\Ents (bT .u64) s.toList ks_3/\
 ∃f:Int,(mget ks_3 wv).getD (.int .i64 0)=.int .i64 f/\
 if f=0 then(
 R (.int .i64 18) H8)
 else
 cJ.C wv H8 (λae H9=> ∃d:Bool,ae=.bool d/\
 if d=true then(
 R (.int .i64 0) H9)
 else
 R (.int .i64 1) H9))
 else
 cJ.C wv H8 (λy u=> ∃e:Bool,y=.bool e/\
 if e=true then(
 R (.int .i64 0) u)
 else
 R (.int .i64 1) u)))
 else
 cJ.C wv H1 (λab aa=> ∃b:Bool,ab=.bool b/\
 if b=true then(
 R (.int .i64 0) aa)
 else
 R (.int .i64 1) aa))
namespace cY
theorem link{wv:Int}{a:Option Nat}{H:zV}{R:zv}(h:pt wv a H R):C wv a H R:=by
 refine T_en K0 25 Tryz.func56 ?_
 intro w0 Q hQ
 unfold pt at h
 refine T_su [(0,vu wv),(1,.map a)]<| ar 0<| T_ed 1 [] []<| T_sz<| ar 1<| T_nd 1 [] [(5,vu wv)]<| T_c (some 6) h ?_;clear h
 rintro v H1 ⟨x,rfl,h⟩
 refine T_pd [5] [(6,vi x)]<| T_e<| T_bz 0<| T_sz<| ar 2<| T_ed 2 [] [(7,.bool (x==5))] ?_
 by_cases c1:x=5
 ·rw[if_pos c1]at h
  exact S_bd 7 (zK c1)<| T_tz 7<| T_kt<| T_tz 7<| ar 4<| T_nr 1 [4] [vi 1] hQ h
 rw[if_neg c1]at h
 refine S_bd 7 (zJ c1)<| T_fz 7<| T_rz 3<| T_ed 2 [7] [(7,.bool (x==6))] ?_
 by_cases c3:x=6
 ·rw[if_pos c3]at h
  exact aL 7 (zK c3)<| ar 4<| T_nr 1 [4] [vi 1] hQ h
 rw[if_neg c3]at h
 refine aM 7 (zJ c3)<| T_sz<| ar 5<| T_ed 2 [7] [(10,.bool (x==1))] ?_
 by_cases c5:x=1
 ·rw[if_pos c5]at h
  refine S_bd 10 (zK c5)<| T_tz 10<| T_kt<| T_tz 10<| ar 8<| T_nd 1 [6,10] [(14,vu wv)] ?_
  refine T_c (some 15) h ?_;clear h
  rintro ak H2 ⟨o,rfl,h⟩
  refine T_pd [14] [(15,.bool o)]<| T_nd 1 [15] [(16,.bool o)] ?_
  by_cases c7:o=true
  ·rw[if_pos c7]at h
   refine N_bd 16 c7<| T_nd 2 [1] [(17,.map a),(18,vu wv)] ?_
   obtain⟨mr,rfl,es,cl,ks,q9,q10,m,e16,h⟩:=h
   refine T_v1 19 (gV 100 (.map (some mr)) (vu wv) false) (vi m) (λw hw=>(fT (kk:=(bT .u64)) (z:=vi 0) Tryz.underlying100 Tryz.underlying40 (λ_=>by kernel_rfl) (by rw[hw];exact q9) q10 false).trans (by simp only[if_true,Bool.false_eq_true,if_false,e16])) [17,18]<| T_ed 2 [16,19] [(21,.bool (m==0))] ?_
   by_cases c12:m=0
   ·rw[if_pos c12]at h
    exact aL 21 (zK c12)<| ar 9<| T_nr 1 [4] [vi 18] hQ h
   rw[if_neg c12]at h
   refine aM 21 (zJ c12)<| T_k<| aA<| aE<| T_sz<| ar 10<| T_n 1 [(22,vu wv)]<| T_c (some 23) h ?_;clear h
   rintro af H3 ⟨i,rfl,h⟩
   refine⟨[(23,.bool i)],pk,?_⟩
   refine T_ne 1 [(24,.bool (!i))] ?_
   by_cases c14:i=true
   ·rw[if_pos c14]at h
    exact aM 24 (congrArg Bool.not (c14))<| T_kt<| ar 12<| T_nr 1 [4] [vi 0] hQ h
   rw[if_neg c14]at h
   exact aL 24 (congrArg Bool.not (zZ c14))<| ar 11<| T_nr 1 [4] [vi 1] hQ h
  rw[if_neg c7]at h
  refine N_bd 16 (zZ c7)<| T_ed 5 [1,16] [(21,.bool false)]<| T_fz 21<| T_k ?_
  refine aA<| aE<| T_sz<| ar 10<| T_n 1 [(22,vu wv)]<| T_c (some 23) h ?_;clear h
  rintro aj H4 ⟨k,rfl,h⟩
  refine⟨[(23,.bool k)],pk,?_⟩
  refine T_ne 1 [(24,.bool (!k))] ?_
  by_cases c18:k=true
  ·rw[if_pos c18]at h
   exact aM 24 (congrArg Bool.not (c18))<| T_kt<| ar 12<| T_nr 1 [4] [vi 0] hQ h
  rw[if_neg c18]at h
  exact aL 24 (congrArg Bool.not (zZ c18))<| ar 11<| T_nr 1 [4] [vi 1] hQ h
 rw[if_neg c5]at h
 refine S_bd 10 (zJ c5)<| T_fz 10<| ar 6<| T_ed 2 [10] [(10,.bool (x==2))] ?_
 by_cases c20:x=2
 ·rw[if_pos c20]at h
  refine S_bd 10 (zK c20)<| T_tz 10<| T_kt<| T_tz 10<| ar 8<| T_nd 1 [6,10] [(14,vu wv)] ?_
  refine T_c (some 15) h ?_;clear h
  rintro ag H5 ⟨p,rfl,h⟩
  refine T_pd [14] [(15,.bool p)]<| T_nd 1 [15] [(16,.bool p)] ?_
  by_cases c22:p=true
  ·rw[if_pos c22]at h
   refine N_bd 16 c22<| T_nd 2 [1] [(17,.map a),(18,vu wv)] ?_
   obtain⟨r,rfl,t,cl_2,ks_2,q24,q25,n,e31,h⟩:=h
   refine T_v1 19 (gV 100 (.map (some r)) (vu wv) false) (vi n) (λw hw=>(fT (kk:=(bT .u64)) (z:=vi 0) Tryz.underlying100 Tryz.underlying40 (λ_=>by kernel_rfl) (by rw[hw];exact q24) q25 false).trans (by simp only[if_true,Bool.false_eq_true,if_false,e31])) [17,18]<| T_ed 2 [16,19] [(21,.bool (n==0))] ?_
   by_cases c27:n=0
   ·rw[if_pos c27]at h
    exact aL 21 (zK c27)<| ar 9<| T_nr 1 [4] [vi 18] hQ h
   rw[if_neg c27]at h
   refine aM 21 (zJ c27)<| T_k<| aA<| aE<| T_sz<| ar 10<| T_n 1 [(22,vu wv)]<| T_c (some 23) h ?_;clear h
   rintro ah H6 ⟨l,rfl,h⟩
   refine⟨[(23,.bool l)],pk,?_⟩
   refine T_ne 1 [(24,.bool (!l))] ?_
   by_cases c29:l=true
   ·rw[if_pos c29]at h
    exact aM 24 (congrArg Bool.not (c29))<| T_kt<| ar 12<| T_nr 1 [4] [vi 0] hQ h
   rw[if_neg c29]at h
   exact aL 24 (congrArg Bool.not (zZ c29))<| ar 11<| T_nr 1 [4] [vi 1] hQ h
  rw[if_neg c22]at h
  refine N_bd 16 (zZ c22)<| T_ed 5 [1,16] [(21,.bool false)]<| T_fz 21<| T_k ?_
  refine aA<| aE<| T_sz<| ar 10<| T_n 1 [(22,vu wv)]<| T_c (some 23) h ?_;clear h
  rintro ac H7 ⟨j,rfl,h⟩
  refine⟨[(23,.bool j)],pk,?_⟩
  refine T_ne 1 [(24,.bool (!j))] ?_
  by_cases c33:j=true
  ·rw[if_pos c33]at h
   exact aM 24 (congrArg Bool.not (c33))<| T_kt<| ar 12<| T_nr 1 [4] [vi 0] hQ h
  rw[if_neg c33]at h
  exact aL 24 (congrArg Bool.not (zZ c33))<| ar 11<| T_nr 1 [4] [vi 1] hQ h
 rw[if_neg c20]at h
 refine S_bd 10 (zJ c20)<| T_fz 10<| T_rz 7<| T_ed 2 [6,10] [(10,.bool (x==3))] ?_
 by_cases c35:x=3
 ·rw[if_pos c35]at h
  refine aL 10 (zK c35)<| ar 8<| T_nd 1 [10] [(14,vu wv)]<| T_c (some 15) h ?_;clear h
  rintro ai H8 ⟨g,rfl,h⟩
  refine T_pd [14] [(15,.bool g)]<| T_nd 1 [15] [(16,.bool g)] ?_
  by_cases c37:g=true
  ·rw[if_pos c37]at h
   refine N_bd 16 c37<| T_nd 2 [1] [(17,.map a),(18,vu wv)] ?_
   obtain⟨q,rfl,s,cl_3,ks_3,q39,q40,f,e46,h⟩:=h
   refine T_v1 19 (gV 100 (.map (some q)) (vu wv) false) (vi f) (λw hw=>(fT (kk:=(bT .u64)) (z:=vi 0) Tryz.underlying100 Tryz.underlying40 (λ_=>by kernel_rfl) (by rw[hw];exact q39) q40 false).trans (by simp only[if_true,Bool.false_eq_true,if_false,e46])) [17,18]<| T_ed 2 [16,19] [(21,.bool (f==0))] ?_
   by_cases c42:f=0
   ·rw[if_pos c42]at h
    exact aL 21 (zK c42)<| ar 9<| T_nr 1 [4] [vi 18] hQ h
   rw[if_neg c42]at h
   refine aM 21 (zJ c42)<| T_k<| aA<| aE<| T_sz<| ar 10<| T_n 1 [(22,vu wv)]<| T_c (some 23) h ?_;clear h
   rintro ae H9 ⟨d,rfl,h⟩
   refine⟨[(23,.bool d)],pk,?_⟩
   refine T_ne 1 [(24,.bool (!d))] ?_
   by_cases c44:d=true
   ·rw[if_pos c44]at h
    exact aM 24 (congrArg Bool.not (c44))<| T_kt<| ar 12<| T_nr 1 [4] [vi 0] hQ h
   rw[if_neg c44]at h
   exact aL 24 (congrArg Bool.not (zZ c44))<| ar 11<| T_nr 1 [4] [vi 1] hQ h
  rw[if_neg c37]at h
  refine N_bd 16 (zZ c37)<| T_ed 5 [1,16] [(21,.bool false)]<| T_fz 21<| T_k ?_
  refine aA<| aE<| T_sz<| ar 10<| T_n 1 [(22,vu wv)]<| T_c (some 23) h ?_;clear h
  rintro y u ⟨e,rfl,h⟩
  refine⟨[(23,.bool e)],pk,?_⟩
  refine T_ne 1 [(24,.bool (!e))] ?_
  by_cases c48:e=true
  ·rw[if_pos c48]at h
   exact aM 24 (congrArg Bool.not (c48))<| T_kt<| ar 12<| T_nr 1 [4] [vi 0] hQ h
  rw[if_neg c48]at h
  exact aL 24 (congrArg Bool.not (zZ c48))<| ar 11<| T_nr 1 [4] [vi 1] hQ h
 rw[if_neg c35]at h
 refine aM 10 (zJ c35)<| T_k<| aA<| aE<| T_sz<| ar 10<| T_n 1 [(22,vu wv)]<| T_c (some 23) h ?_;clear h
 rintro ab aa ⟨b,rfl,h⟩
 refine⟨[(23,.bool b)],pk,?_⟩
 refine T_ne 1 [(24,.bool (!b))] ?_
 by_cases c50:b=true
 ·rw[if_pos c50]at h
  exact aM 24 (congrArg Bool.not (c50))<| T_kt<| ar 12<| T_nr 1 [4] [vi 0] hQ h
 rw[if_neg c50]at h
 exact aL 24 (congrArg Bool.not (zZ c50))<| ar 11<| T_nr 1 [4] [vi 1] hQ h
end cY

/-! moraine/audit.others -/
namespace eP
def K0:=Func.code Tryz.f57
def K2:=cb K0
def K4:=cb K2
def K6:=cb K4
def K14:=cb K6
def K15:=ca K14
def K18:=cb K15
def K19:=ca K18
def K20:=ca K19
end eP
def eP.pt(hv n:zW)(m l:Nat)(H:zV)(R:zv):Prop:=
 aW.C n m l H (λv H1=> ∃(xB:zW) (xN xC:Nat),v=.slice xB xN xC/\
 eY hv (
 R (.slice xB xN xC) H1) (λr=>
 ∃(u:zW) (j z:Nat),hat H1 (r.add 1)=some (.slice u j z)/\
 dH 1 40 8 [.int .u64 0] xB xN xC u j H1 (λap y H2=>
 ∃(o:zW) (d e:Nat),hat H2 (r.add 2)=some (.slice o d e)/\
 ∃(ac:zW->Nat->Nat->zw) (m21:zW->Nat->Nat->Int->zV->Nat),ac ap (xN+j) y 0 H2/\ ∀(lB:zW) (lN:Nat) (lC:Nat) (s24:Int) (H3:zV),ac lB lN lC s24 H3->
 if s24< (d:Int)then(
 ∃g:Addr,o=some g/\
 yZ s24 d/\
 ∃q f:Int,aS H3 (g.add (Int.toNat s24*2)) 0 [.int .u64 q,.int .u64 f]/\
 ∀(b:Nat) (H4:zV),b=H3.size->H4=H3.push (.cells #[.int .u64 0,.int .u64 0] 83)->
 (aK H4 (ad b) 0 2)/\ ∀H5,H5=aU H4 (ad b) [.int .u64 q,.int .u64 f] 0->
 ∃x:Int,hat H5 (ad b)=some (.int .u64 x)/\
 ∃aa:Int,hat H5 ((ad b).add 1)=some (.int .u64 aa)/\
 ∀(ab:Nat) (H6:zV),ab=H5.size->H6=H5.push (.cells #[.int .u64 x,.int .u64 aa] 40)->
 dH 1 40 8 [.int .u64 0] lB lN lC (some (ad ab)) 2 H6 (λs p H7=>
 (ac s (lN+2) p (zY (s24+1)) H7/\m21 s (lN+2) p (zY (s24+1)) H7<m21 lB lN lC s24 H3)))
 else
 R (.slice lB lN lC) H3)))
namespace eP
theorem link{hv n:zW}{m l:Nat}{H:zV}{R:zv}(h:pt hv n m l H R):C hv n m l H R:=by
 refine T_en K0 37 Tryz.func57 ?_
 intro w0 Q hQ
 unfold pt zY at h
 refine T_su [(0,vp hv),(1,vs n m l)]<| ar 0<| T_ed 1 [] []<| ar 1<| T_nd 1 [1] [(8,vs n m l)]<| T_c (some 9) h ?_;clear h
 rintro v H1 ⟨xB,xN,xC,rfl,h⟩
 refine T_pd [8] [(9,vs xB xN xC)]<| T_ed 1 [9] [(5,vs xB xN xC)]<| T_sz<| ar 2<| T_nd 1 [] [(10,vp hv)] ?_
 rcases hv with _ | r
 ·rw[onPtr_none]at h
  exact T_ed 1 [0,10] [(0,vp none),(11,.bool true)]<| T_tz 11<| ar 3<| T_nr 2 [4] [vs xB xN xC] hQ h
 rw[onPtr_some]at h
 refine T_ed 1 [0,10] [(0,vp (some r)),(11,.bool false)]<| T_fz 11<| T_kt<| ar 4<| T_nd 4 [5,11] [(13,vs xB xN xC),(16,vp (some (r.add 1)))] ?_
 obtain⟨u,j,z,q1,h⟩:=h
 refine T_l1 17 29 q1 [16]<| N_op (some 18) (eJ #[29,29] 29 #[vs xB xN xC,vs u j z]) _ (λ_=>by kernel_rfl) (dM (T:=40) (sz:=1) (bytes:=8) (zero:=(vu 0:Value)) Tryz.underlying29 Tryz.underlying29 rfl (show Tryz.prog.info? 40=some Tryz.t40 from by kernel_rfl) (by kernel_rfl) (by kernel_rfl) (by decide) (by kernel_rfl) (by first | exact h | (simpa only[Value.cells,List.toList_toArray]using h))) ?_;clear h
 rintro _ H2 ⟨ap,y,rfl,h⟩
 refine T_pd [13,17] [(18,vs ap (xN+j) y)]<| T_ed 1 [18] [(5,vs ap (xN+j) y)]<| T_sz<| ar 5<| T_nd 3 [0] [(21,vp (some (r.add 2)))] ?_
 obtain⟨o,d,e,q2,h⟩:=h
 refine T_l1 22 34 q2 [21]<| T_ed 2 [] [(23,vi d),(24,vi 0)]<| T_bz 0 ?_
 obtain⟨ac,m21,i3,i4⟩:=h
 refine dE (x:=K20) (σ:=zW×Nat×Nat×Int) (λs_=> [(5,vs s_.1 s_.2.1 s_.2.2.1),(22,vs o d e),(23,vi d),(24,vi s_.2.2.2)]) (λs_ H=>ac s_.1 s_.2.1 s_.2.2.1 s_.2.2.2 H) (λs_ H=>m21 s_.1 s_.2.1 s_.2.2.1 s_.2.2.2 H) ((ap,(xN+j),y,0):zW×Nat×Nat×Int) (by kernel_rfl) i3 sk ?_
 rintro⟨lB,lN,lC,s24⟩ H3 i5
 have h:=i4 lB lN lC s24 H3 i5
 refine T_su [(5,vs lB lN lC),(22,vs o d e),(23,vi d),(24,vi s24)]<| ar 6<| T_ed 1 [] [(25,.bool (decide (s24< (d:Int))))]<| T_sz ?_
 by_cases c6:s24< (d:Int)
 ·rw[if_pos c6]at h
  refine aL 25 (zX c6)<| T_kt<| T_sz<| T_bz 1<| ar 7<| T_ud [25] [] ?_
  obtain⟨g,rfl,q8,h⟩:=h
  refine T_xd (some 26) 34 83 2 g d e .i64 s24 Tryz.underlying34 q8.1 q8.2 [22] [(22,vs (some g) d e),(26,vp (some (g.add (Int.toNat s24*2))))] ?_
  obtain⟨q,f,q9,h⟩:=h
  refine T_lr 27 83 q9 [26]<| T_nw (some 7) (λb=>vp (pa b)) (.cells #[vu 0,vu 0] 83) ?_
  intro b H4 e10 e11
  replace h:=h b H4 e10 e11
  refine T_pd [] [(7,vp (pa b))] ?_
  obtain⟨q13,h⟩:=h
  refine jP 83 [vu q,vu f] q13 ?_
  intro H5 e12
  replace h:=h H5 e12
  refine T_pd [27] []<| T_e<| T_rz 8<| T_nd 2 [5] [(28,vs lB lN lC),(29,vp (pa b))] ?_
  obtain⟨x,q14,h⟩:=h
  refine T_l1 30 40 q14 [29]<| T_nd 1 [7] [(31,vp (some ((ad b).add 1)))] ?_
  obtain⟨aa,q15,h⟩:=h
  refine T_l1 32 40 q15 [31]<| T_nw (some 33) (λb=>vs (pa b) 2 2) (.cells #[vu x,vu aa] 40) ?_
  intro ab H6 e16 e17
  replace h:=h ab H6 e16 e17
  refine T_pd [30,32] [(33,vs (pa ab) 2 2)]<| N_op (some 34) (eJ #[29,29] 29 #[vs lB lN lC,vs (pa ab) 2 2]) _ (λ_=>by kernel_rfl) (dM (T:=40) (sz:=1) (bytes:=8) (zero:=(vu 0:Value)) Tryz.underlying29 Tryz.underlying29 rfl (show Tryz.prog.info? 40=some Tryz.t40 from by kernel_rfl) (by kernel_rfl) (by kernel_rfl) (by decide) (by kernel_rfl) (by first | exact h | (simpa only[Value.cells,List.toList_toArray]using h))) ?_;clear h
  rintro _ H7 ⟨s,p,rfl,h⟩
  exact T_pd [28,33] [(34,vs s (lN+2) p)]<| T_nd 1 [34] [(5,vs s (lN+2) p)]<| zq<| aA<| aE<| T_rz 9<| T_ed 2 [24] [(24,vi (zY (s24+1)))]<| bK ((s,(lN+2),p,(zY (s24+1))):zW×Nat×Nat×Int) sk h
 rw[if_neg c6]at h
 exact aM 25 (zQ c6)<| zk 0<| aD<| aD<| aQ<| aE<| ar 10<| T_nr 2 [4] [vs lB lN lC] hQ h
end eP

