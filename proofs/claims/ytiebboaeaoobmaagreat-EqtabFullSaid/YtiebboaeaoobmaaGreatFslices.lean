/- Printed: what each function asks, and that it is sound. -/
import Derived.Test.YtiebboaeaoobmaaGreatFnsC
set_option linter.unusedSimpArgs false
set_option linter.unusedVariables false
set_option maxRecDepth 100000
set_option maxHeartbeats 1000000
noncomputable section
namespace Go.Proofs.YtiebboaeaoobmaaGreat
open Go
/-! slices.Reverse[[]moraine/api.Word,moraine/api.Word] -/
namespace aX
def K0:=Func.code Tryz.f69
def K2:=cb K0
def K3:=ca K2
def K4:=ca K3
def K6:=cb K4
def K11:=ca K6
def K13:=ca K11
end aX
def aX.pt(sB:zW)(sN sC:Nat)(H:zV)(R:zk):Prop:=
 ∃(I5:Int->zv) (m5:Int->Int->zV->Nat),I5 0 (zY ((sN:Int)-1)) H/\ ∀(i:Int) (j:Int) (H1:zV),I5 i j H1->
 if i<j then(
 ∃b:Addr,sB=some b/\
 zw j sN/\
 ∃x:Int,hat H1 (b.add (Int.toNat j*1))=some (.int .u64 x)/\
 zw i sN/\
 ∃d:Int,hat H1 (b.add (Int.toNat i*1))=some (.int .u64 d)/\
 zw i sN/\
 (aJ H1 (b.add (Int.toNat i*1)) 0 1)/\ ∀H2,H2=aP H1 (b.add (Int.toNat i*1)) [.int .u64 x] 0->
 zw j sN/\
 (aJ H2 (b.add (Int.toNat j*1)) 0 1)/\ ∀H3,H3=aP H2 (b.add (Int.toNat j*1)) [.int .u64 d] 0->
 (I5 (zY (i+1)) (zY (j-1)) H3/\m5 (zY (i+1)) (zY (j-1)) H3<m5 i j H1))
 else
 R (.tuple #[]) H1
namespace aX
theorem link{sB:zW}{sN sC:Nat}{H:zV}{R:zk}(h:pt sB sN sC H R):C sB sN sC H R:=by
 refine T_en K0 28 Tryz.func69 ?_
 intro w0 Q hQ
 unfold pt zY at h
 refine T_su [(0,vs sB sN sC)]<| ar 0<| T_ed 5 [] [(2,vi 0),(3,vi (zY ((sN:Int)-1)))]<| T_bz 0 ?_
 obtain⟨I5,m5,i1,i2⟩:=h
 refine cu (x:=K4) (σ:=Int×Int) (λs_=> [(0,vs sB sN sC),(2,vi s_.1),(3,vi s_.2)]) (λs_ H=>I5 s_.1 s_.2 H) (λs_ H=>m5 s_.1 s_.2 H) ((0,(zY ((sN:Int)-1))):Int×Int) (by kernel_rfl) i1 sk ?_
 rintro⟨i,j⟩ H1 i3
 have h:=i2 i j H1 i3
 refine T_su [(0,vs sB sN sC),(2,vi i),(3,vi j)]<| T_sz<| ar 1<| T_ed 3 [] [(9,.bool (decide (i<j)))] ?_
 by_cases c4:i<j
 ·rw[if_pos c4]at h
  refine aH 9 (zX c4)<| T_kt<| T_sz<| T_bz 1 ?_
  obtain⟨b,rfl,q6,x,q7,q8,d,q9,q10,h⟩:=h
  refine yz 3 (Code.ops K13) [(13,(b.add (Int.toNat j*1)),[vu x]),(13,(b.add (Int.toNat i*1)),[vu d])] 16 (bv 16 0) (show aE _ _ _ from⟨⟨q7,trivial⟩,⟨q9,trivial⟩,trivial⟩)<| T_gp 0 (some 14) (vs (some b) sN sC) (bv 16 1) [(0,vs (some b) sN sC),(2,vi i),(3,vi j),(14,vs (some b) sN sC)]<| aD 1 15 (vi i) (bv 16 3) []<| aD 2 16 (vs (some b) sN sC) (bv 16 7) []<| aD 3 17 (vi j) (bv 16 15) []<| aD 4 18 (vs (some b) sN sC) (bv 16 31) []<| aD 5 19 (vi j) (bv 16 63) []<| T_g1 6 20 (vp (some (b.add (Int.toNat j*1)))) (bv 16 127) [18,19] (aT 54 (vs (some b) sN sC) (vi j)) (λ_ w _ _ _=>dm (P:=Tryz.prog) (t:=54) (elem:=31) (sz:=1) (a:=b) (len:=sN) (cap:=sC) (k:=.i64) (i:=j) Tryz.underlying54 (λ_=>by kernel_rfl) q6.1 q6.2 w)<| T_g1 7 21 (vu x) (bv 16 255) [20] (aM 31 (vp (some (b.add (Int.toNat j*1))))) (yx 13 yZ)<| aD 8 22 (vs (some b) sN sC) (bv 16 511) []<| aD 9 23 (vi i) (bv 16 1023) []<| T_g1 10 24 (vp (some (b.add (Int.toNat i*1)))) (bv 16 2047) [22,23] (aT 54 (vs (some b) sN sC) (vi i)) (λ_ w _ _ _=>dm (P:=Tryz.prog) (t:=54) (elem:=31) (sz:=1) (a:=b) (len:=sN) (cap:=sC) (k:=.i64) (i:=i) Tryz.underlying54 (λ_=>by kernel_rfl) q8.1 q8.2 w)<| T_g1 11 25 (vu d) (bv 16 4095) [24] (aM 31 (vp (some (b.add (Int.toNat i*1))))) (yx 13 yX)<| T_g1 12 26 (vp (some (b.add (Int.toNat i*1)))) (bv 16 8191) [14,15] (aT 54 (vs (some b) sN sC) (vi i)) (λ_ w _ _ _=>dm (P:=Tryz.prog) (t:=54) (elem:=31) (sz:=1) (a:=b) (len:=sN) (cap:=sC) (k:=.i64) (i:=i) Tryz.underlying54 (λ_=>by kernel_rfl) q10.1 q10.2 w) ?_
  obtain⟨q12,h⟩:=h
  refine fI 13 none (bv 16 16383) (ic 31 (vp (some (b.add (Int.toNat i*1)))) (vu x)) (λHz=>Hz=aP H1 (b.add (Int.toNat i*1)) [vu x] 0) (by kernel_rfl) (λ_=>by kernel_rfl) (gO [vu x] 1 (by kernel_rfl) (by kernel_rfl) (λ_=>by kernel_rfl) (by kernel_rfl) q12) (by kernel_rfl) ?_
  intro H2 e11
  replace h:=h H2 e11
  refine⟨[(0,vs (some b) sN sC),(2,vi i),(3,vi j),(16,vs (some b) sN sC),(17,vi j),(25,vu d)],pk,(show aE _ _ _ from⟨trivial,trivial,trivial⟩),?_⟩
  obtain⟨q13,h⟩:=h
  refine T_g 14 (some 27) (vp (some (b.add (Int.toNat j*1)))) (bv 16 32767) [(0,vs (some b) sN sC),(2,vi i),(3,vi j),(25,vu d),(27,vp (some (b.add (Int.toNat j*1))))] (aT 54 (vs (some b) sN sC) (vi j)) (λ_ w _ _ _=>dm (P:=Tryz.prog) (t:=54) (elem:=31) (sz:=1) (a:=b) (len:=sN) (cap:=sC) (k:=.i64) (i:=j) Tryz.underlying54 (λ_=>by kernel_rfl) q13.1 q13.2 w) ?_
  obtain⟨q15,h⟩:=h
  refine fI 15 none (bv 16 65535) (ic 31 (vp (some (b.add (Int.toNat j*1)))) (vu d)) (λHz=>Hz=aP H2 (b.add (Int.toNat j*1)) [vu d] 0) (by kernel_rfl) (λ_=>by kernel_rfl) (gO [vu d] 1 (by kernel_rfl) (by kernel_rfl) (λ_=>by kernel_rfl) (by kernel_rfl) q15) (by kernel_rfl) ?_
  intro H3 e14
  replace h:=h H3 e14
  refine⟨[(0,vs (some b) sN sC),(2,vi i),(3,vi j)],pk,(show aE _ _ _ from⟨trivial,trivial,trivial⟩),?_⟩
  refine dp [(0,vs (some b) sN sC),(2,vi i),(3,vi j)] sk ?_
  exact yv<| aC<| aB<| T_rz 2<| T_ne 6 [(0,vs (some b) sN sC),(2,vi (zY (i+1))),(3,vi (zY (j-1)))]<| aQ (((zY (i+1)),(zY (j-1))):Int×Int) sk h
 rw[if_neg c4]at h
 exact aI 9 (zQ c4)<| zj 0<| aA<| aA<| aN<| fp (fn:=Tryz.f69) [] hQ (show cF _ _ _ [] _ from .nil) h
end aX

/-! slices.Repeat[[]moraine/api.Word,moraine/api.Word] -/
namespace aZ
def K0:=Func.code Tryz.f70
def K2:=cb K0
def K4:=cb K2
def K10:=cb K4
def K12:=cb K10
def K18:=cb K12
def K20:=cb K18
def K21:=ca K20
def K23:=ca K21
def K24:=ca K23
def K26:=cb K24
def K31:=ca K26
end aZ
def aZ.pt(xB:zW)(xN xC:Nat)(d:Int)(H:zV)(R:zk):Prop:=
 if d<0 then(
 False)
 else
 eV.C (IntKind.wrap .u64 (xN:Int)) (IntKind.wrap .u64 d) H (λv H1=> ∃ra rb:Int,v=.tuple #[.int .u64 ra,.int .u64 rb]/\
 if((decide (ra>0)) || (decide (rb>9223372036854775807)))=true then(
 False)
 else
 0<=(zY rb)/\(zY rb)<=(zY rb)/\8*(zY rb)<=2 ^ 48/\(zY rb)<=9223372036854775807/\
 ∀(b:Nat) (H2:zV),b=H1.size->H2=H1.push (.cells (Builtin.zeroCells #[.int .u64 0] (Int.toNat (zY rb))) 31)->
 p9 1 (some (ad b)) (Int.toNat (zY rb)) xB xN H2 (λcn H3=>
 ∃(k:zv) (m25:Int->zV->Nat),k (cn:Int) H3/\ ∀(nv:Int) (H4:zV),k nv H4->
 if nv< ((Int.toNat (zY rb)):Int)then(
 ∃(lo hi:Nat),nv=(lo:Int)/\hi=(Int.toNat (zY rb))/\lo<=hi/\hi<=(Int.toNat (zY rb))/\
 ∀sl:zW,sl=(if(Int.toNat (zY rb))=lo then(some (ad b))else Option.map (λa:Addr=>a.add (lo*1)) (some (ad b)))->
 ∃(f i:Nat),f=0/\nv=(i:Int)/\f<=i/\i<=(Int.toNat (zY rb))/\
 ∀j:zW,j=(if(Int.toNat (zY rb))=f then(some (ad b))else Option.map (λa:Addr=>a.add (f*1)) (some (ad b)))->
 p9 1 sl (hi-lo) j (i-f) H4 (λg H5=>
 (k (zY (nv+(g:Int))) H5/\m25 (zY (nv+(g:Int))) H5<m25 nv H4)))
 else
 R (.slice (some (ad b)) (Int.toNat (zY rb)) (Int.toNat (zY rb))) H4))
namespace aZ
theorem link{xB:zW}{xN xC:Nat}{d:Int}{H:zV}{R:zk}(h:pt xB xN xC d H R):C xB xN xC d H R:=by
 refine T_en K0 48 Tryz.func70 ?_
 intro w0 Q hQ
 unfold pt zY at h
 refine T_su [(0,vs xB xN xC),(1,vi d)]<| ar 0<| T_ed 1 [] []<| T_sz<| ar 1<| T_ed 2 [] [(10,.bool (decide (d<0)))] ?_
 by_cases c1:d<0
 ·rw[if_pos c1]at h
  refine aH 10 (zX c1)<| T_rz 2<| T_ud [10] [] ?_
  exact h.elim
 rw[if_neg c1]at h
 refine aI 10 (zQ c1)<| T_kt<| ar 3<| T_nd 5 [1,10] [(15,vu (IntKind.wrap .u64 (xN:Int))),(17,vu (IntKind.wrap .u64 d))]<| T_c (some 18) h ?_;clear h
 rintro v H1 ⟨ra,rb,rfl,h⟩
 refine T_pd [15,17] [(18,.tuple #[vu ra,vu rb])]<| T_ed 5 [18] [(5,vu ra),(6,vu rb)]<| T_sz<| ar 4 ?_
 refine gm [(0,vs xB xN xC),(6,vu rb),(26,.bool ((decide (ra>0)) || (decide (rb>9223372036854775807))))] ?_ ?_
 ·refine aB ?_
  by_cases c5:((decide (ra>0)) || (decide (rb>9223372036854775807)))=true
  ·rw[if_pos c5]at h
   refine aH 26 c5<| T_rz 5<| T_nu [(0,vs xB xN xC),(6,vu rb)] ?_
   exact h.elim
  rw[if_neg c5]at h
  refine aI 26 (zZ c5)<| T_kt<| ar 6<| T_n 2 [(0,vs xB xN xC),(29,vi (zY rb))] ?_
  obtain⟨q7,q8,q9,q10,h⟩:=h
  refine N_op (some 30) (jd 54 (vi (zY rb)) (vi (zY rb))) (λv Hz=>v=Value.slice (some (Addr.mk H1.size 0 none)) (Int.toNat (zY rb)) (Int.toNat (zY rb))/\Hz=H1.push (.cells (Builtin.zeroCells #[vu 0] (Int.toNat (zY rb))) 31)) (λ_=>by kernel_rfl) (nP (T:=31) (zero:=vu 0) Tryz.underlying54 (show Tryz.prog.info? 31=some Tryz.t31 from by kernel_rfl) (by kernel_rfl) q7 q8 q9 q10 (by kernel_rfl) (by decide)) ?_
  rintro _ H2 ⟨rfl,e12⟩
  obtain⟨b,e11⟩: ∃b,b=H1.size:=⟨_,rfl⟩
  replace h:=h b H2 e11 e12
  rw[<-e11]
  refine T_pd [29] [(30,vs (pa b) (Int.toNat (zY rb)) (Int.toNat (zY rb)))]<| T_ed 1 [30] [(7,vs (pa b) (Int.toNat (zY rb)) (Int.toNat (zY rb)))]<| ar 7<| T_nd 2 [0] [(31,vs (pa b) (Int.toNat (zY rb)) (Int.toNat (zY rb))),(32,vs xB xN xC)]<| N_op (some 33) (ov #[54,54] 3 #[vs (pa b) (Int.toNat (zY rb)) (Int.toNat (zY rb)),vs xB xN xC]) _ (λ_=>by kernel_rfl) (qa (T:=31) (sz:=1) Tryz.underlying54 (λ_=>by kernel_rfl) h) ?_;clear h
  rintro _ H3 ⟨cn,rfl,h⟩
  refine T_pd [31,32] [(33,vi cn)]<| T_ed 1 [33] [(8,vi cn)]<| T_sz<| T_bz 0 ?_
  obtain⟨k,m25,i13,i14⟩:=h
  refine cu (x:=K24) (σ:=Int) (λs_=> [(7,vs (pa b) (Int.toNat (zY rb)) (Int.toNat (zY rb))),(8,vi s_)]) (λs_ H=>k s_ H) (λs_ H=>m25 s_ H) ((cn:Int):Int) (by kernel_rfl) i13 sk ?_
  rintro nv H4 i15
  have h:=i14 nv H4 i15
  refine T_su [(7,vs (pa b) (Int.toNat (zY rb)) (Int.toNat (zY rb))),(8,vi nv)]<| T_sz<| ar 8<| T_ed 4 [] [(37,.bool (decide (nv< ((Int.toNat (zY rb)):Int))))] ?_
  by_cases c16:nv< ((Int.toNat (zY rb)):Int)
  ·rw[if_pos c16]at h
   refine aH 37 (zX c16)<| T_kt<| T_bz 1 ?_
   obtain⟨lo,hi,q18,q19,q20,q21,h⟩:=h
   obtain⟨sl,e22⟩: ∃B,B=(if(Int.toNat (zY rb))=lo then(pa b)else Option.map (λa:Addr=>a.add (lo*1)) (pa b)):=⟨_,rfl⟩
   replace h:=h sl e22
   obtain⟨f,i,q23,q24,q25,q26,h⟩:=h
   obtain⟨j,e27⟩: ∃B,B=(if(Int.toNat (zY rb))=f then(pa b)else Option.map (λa:Addr=>a.add (f*1)) (pa b)):=⟨_,rfl⟩
   replace h:=h j e27
   refine yz 9 (Code.ops K31) [] 10 (bv 10 0) (show aE _ _ _ from trivial) ?_
   refine aD 0 38 (vi nv) (bv 10 1) [37]<| aD 1 39 (vs (pa b) (Int.toNat (zY rb)) (Int.toNat (zY rb))) (bv 10 3) []<| aD 2 40 (vi nv) (bv 10 7) []<| T_g1 3 41 (vs sl (hi-lo) ((Int.toNat (zY rb))-lo)) (bv 10 15) [39,40] (lj 54 (vs (pa b) (Int.toNat (zY rb)) (Int.toNat (zY rb))) (some (vi nv)) none none) (λ_ w _ _ _=>(j9 (P:=Tryz.prog) (t:=54) (elem:=31) (sz:=1) (a:=(pa b)) (len:=(Int.toNat (zY rb))) (cap:=(Int.toNat (zY rb))) (some (vi nv)) none lo hi Tryz.underlying54 (λ_=>by kernel_rfl) (.inr ⟨.i64,congrArg (λq=>some (Value.int .i64 q)) q18⟩) (.inl ⟨rfl,q19⟩) q20 q21 w).trans (by rw[e22];try rfl)) ?_
   refine aD 4 42 (vs (pa b) (Int.toNat (zY rb)) (Int.toNat (zY rb))) (bv 10 31) []<| aD 5 43 (vi nv) (bv 10 63) []<| T_g1 6 44 (vs j (i-f) ((Int.toNat (zY rb))-f)) (bv 10 127) [42,43] (lj 54 (vs (pa b) (Int.toNat (zY rb)) (Int.toNat (zY rb))) none (some (vi nv)) none) (λ_ w _ _ _=>(j9 (P:=Tryz.prog) (t:=54) (elem:=31) (sz:=1) (a:=(pa b)) (len:=(Int.toNat (zY rb))) (cap:=(Int.toNat (zY rb))) none (some (vi nv)) f i Tryz.underlying54 (λ_=>by kernel_rfl) (.inl ⟨rfl,q23⟩) (.inr ⟨.i64,congrArg (λq=>some (Value.int .i64 q)) q24⟩) q25 q26 w).trans (by rw[e27];try rfl))<| mg 7 (some 45) (bv 10 255) (ov #[54,54] 3 #[vs sl (hi-lo) ((Int.toNat (zY rb))-lo),vs j (i-f) ((Int.toNat (zY rb))-f)]) _ (by kernel_rfl) (λ_=>by kernel_rfl) (qa (T:=31) (sz:=1) Tryz.underlying54 (λ_=>by kernel_rfl) h) (by kernel_rfl) ?_;clear h
   rintro _ H5 ⟨g,rfl,h⟩
   refine⟨[(7,vs (pa b) (Int.toNat (zY rb)) (Int.toNat (zY rb))),(8,vi nv),(38,vi nv),(45,vi g)],pk,(show aE _ _ _ from trivial),?_⟩
   exact T_g 8 (some 46) (vi (zY (nv+(g:Int)))) (bv 10 511) [(7,vs (pa b) (Int.toNat (zY rb)) (Int.toNat (zY rb))),(8,vi nv),(46,vi (zY (nv+(g:Int))))] (pure (.value (vi (zY (nv+(g:Int))))):Sem Next) (λ_ _ _ _ _=>rfl)<| T_g1 9 8 (vi (zY (nv+(g:Int)))) (bv 10 1023) [8,46] (pure (.value (vi (zY (nv+(g:Int))))):Sem Next) (λ_ _ _ _ _=>rfl)<| dp [(7,vs (pa b) (Int.toNat (zY rb)) (Int.toNat (zY rb))),(8,vi (zY (nv+(g:Int))))] sk<| yv<| aC<| aB<| aQ ((zY (nv+(g:Int))):Int) sk h
  rw[if_neg c16]at h
  exact aI 37 (zQ c16)<| zj 0<| aA<| aA<| aN<| aB<| ar 10<| T_nr 2 [4] [vs (pa b) (Int.toNat (zY rb)) (Int.toNat (zY rb))] hQ h
 intro hk
 refine T_n 3 [(0,vs xB xN xC),(6,vu rb),(23,.bool (decide (ra>0)))] ?_
 by_cases c3:ra>0
 ·have b4:(decide (ra>0))=true:=zX c3
  refine bV [(0,vs xB xN xC),(6,vu rb),(23,.bool true)] (by rw[b4]) ?_
  refine T_nd 3 [23] [(26,.bool true)]<| zq<| S_bd 26 (b:=true) (v:=((decide (ra>0)) || (decide (rb>9223372036854775807)))) (by simp only[b4,BL]) ?_
  exact hk
 have b4:(decide (ra>0))=false:=zQ c3
 refine bV [(0,vs xB xN xC),(6,vu rb),(23,.bool false)] (by rw[b4]) ?_
 refine T_nd 3 [23] [(26,.bool (decide (rb>9223372036854775807)))]<| zq<| S_bd 26 (b:=(decide (rb>9223372036854775807))) (v:=((decide (ra>0)) || (decide (rb>9223372036854775807)))) (by simp only[b4,BL]) ?_
 exact hk
end aZ

/-! slices.AppendSeq[[]moraine/api.Word,moraine/api.Word] -/
namespace aS
def K0:=Func.code Tryz.f91
def K2:=cb K0
def K3:=ca K2
def K6:=cb K3
def K7:=ca K6
def K8:=ca K7
def K9:=cb K7
end aS
def aS.pt(sB:zW)(sN sC:Nat)(a:Value)(H:zV)(R:zk):Prop:=
 ∀(b:Nat) (H1:zV),b=H.size->H1=H.push (.cells #[.slice sB sN sC] 54)->
 ∀(rc:LoopState->Option Code->Obj) (lp:Nat) (H2:zV),lp=H1.size+1->H2=(H1.push (.deferred (some []))).push (rc .ready none)->
 ∀vY:Value,(∀(x:Int) (H3:zV) (vRy:zk),H3[lp]?=some (rc .ready none)->
 (H3[lp]?=some (rc .ready none)/\ ∀H4:zV,H4=aV H3 lp (rc .busy none)->
 ∃(xB:zW) (xN xC:Nat),hat H4 (ad b)=some (.slice xB xN xC)/\
 ∀(j:Nat) (H5:zV),j=H4.size->H5=H4.push (.cells #[.int .u64 x] 31)->
 fN 1 31 8 [.int .u64 0] xB xN xC (some (ad j)) 1 H5 (λap k H6=>
 (aJ H6 (ad b) 0 1)/\ ∀H7,H7=aP H6 (ad b) [.slice ap (xN+1) k] 0->
 H7[lp]?=some (rc .busy none)/\
 vRy (.bool true) (aV H7 lp (rc .ready none))))->
 FC Tryz.prog vY #[.int .u64 x] H3 vRy)->
 FE Tryz.prog a #[vY] H2 (λ_ H8=>
 (H8[lp]?=some (rc .ready none)/\ ∀H9:zV,H9=aV H8 lp (rc .exhausted none)->
 ∃(f:zW) (i d:Nat),hat H9 (ad b)=some (.slice f i d)/\
 Shut (H1.size::[]) H9 (λl=>
 R (.slice f i d) l)))
namespace aS
theorem link{sB:zW}{sN sC:Nat}{a:Value}{H:zV}{R:zk}(h:pt sB sN sC a H R):C sB sN sC a H R:=by
 refine T_en K0 13 Tryz.func91 ?_
 intro w0 Q hQ
 unfold pt at h
 refine T_su [(0,vs sB sN sC),(1,a)]<| ar 0<| T_nw (some 2) (λb=>vp (pa b)) (.cells #[vs sB sN sC] 54) ?_
 intro b H1 e1 e2
 replace h:=h b H1 e1 e2
 refine T_pd [0] [(2,vp (pa b))]<| T_ed 1 [] []<| T_sz<| ar 1<| T_ed 1 [1] [(6,a)]<| T_bz 0<| kU (g:=.tmp 6) (ps:= #[7]) (assign:=K8) (body:=K9) (a) (by kernel_rfl) (by kernel_rfl) (by kernel_rfl) ?_
 intro rc lp H2 r3 e4 e5 y6
 refine FE.mono (h rc lp H2 e4 e5 (.func (.yield lp) #[] #[]) ?_) ?_
 ·clear h
  intro x H3 vRy q7 h
  refine y6 #[vu x] H3 vRy (by kernel_rfl) q7 (λw1x=>?_)
  refine T_sd [] [(7,vu x)]<| T_rz 2<| T_nd 1 [6,7] [(5,vu x)]<| zq ?_
  obtain⟨q9,h⟩:=h
  refine aB<| kS r3 q9 ?_
  intro H4 e8
  replace h:=h H4 e8
  refine T_bz 1<| T_rz 3 ?_
  obtain⟨xB,xN,xC,q10,h⟩:=h
  refine T_l1 8 54 q10 []<| T_nd 1 [5] [(9,vu x)]<| T_nw (some 10) (λb=>vs (pa b) 1 1) (.cells #[vu x] 31) ?_
  intro j H5 e11 e12
  replace h:=h j H5 e11 e12
  refine T_pd [9] [(10,vs (pa j) 1 1)]<| N_op (some 11) (fq #[54,54] 54 #[vs xB xN xC,vs (pa j) 1 1]) _ (λ_=>by kernel_rfl) (eJ (T:=31) (sz:=1) (bytes:=8) (zero:=(vu 0:Value)) Tryz.underlying54 Tryz.underlying54 rfl (show Tryz.prog.info? 31=some Tryz.t31 from by kernel_rfl) (by kernel_rfl) (by kernel_rfl) (by decide) (by kernel_rfl) (by first | exact h | (simpa only[Value.cells,List.toList_toArray]using h))) ?_;clear h
  rintro _ H6 ⟨ap,k,rfl,h⟩
  refine T_pd [8,10] [(11,vs ap (xN+1) k)] ?_
  obtain⟨q14,h⟩:=h
  refine dV 54 (vs ap (xN+1) k) q14 ?_
  intro H7 e13
  replace h:=h H7 e13
  refine⟨[],pk,?_⟩
  refine zq<| aC ?_
  obtain⟨q15,h⟩:=h
  exact jx r3 q15 h
 clear h y6
 rintro _ H8 (⟨q16,h⟩)
 refine .inl ⟨q16,λH9 e18=>?_⟩
 replace h:=h H9 e18
 refine jl (H1.size::[]) rfl ?_
 refine T_sd [6] []<| aC<| aB<| ar 4 ?_
 obtain⟨f,i,d,q17,h⟩:=h
 refine T_l1 12 54 q17 [2]<| T_ne 1 [(4,vs f i d)]<| zx ?_
 show At _ _ _ _ _ (Q .ret)
 refine iQ (fn:=Tryz.f91) (H1.size::[]) hQ (Shut.mono (λl h=>?_) h)
 exact⟨[vs f i d],(show cF _ _ _ [.tmp 4] _ from .tmp (by kernel_rfl) (.nil)),h⟩
end aS

/-! slices.Clone[[]moraine/api.Entry,moraine/api.Entry] -/
namespace bS
def K0:=Func.code Tryz.f130
end bS
def bS.pt(sB:zW)(sN sC:Nat)(v:Int)(H:zV)(R:zk):Prop:=
 cR.C sB sN sC v H (λa H1=> ∃x:Int,a=.int .i64 x/\
 R (.bool (decide (x>=0))) H1)
namespace bS
theorem link{sB:zW}{sN sC:Nat}{v:Int}{H:zV}{R:zk}(h:pt sB sN sC v H R):C sB sN sC v H R:=by
 refine T_en K0 9 Tryz.func130 ?_
 intro w0 Q hQ
 unfold pt at h
 refine T_su [(0,vs sB sN sC),(1,vi v)]<| ar 0<| T_ed 1 [] []<| ar 1<| T_n 2 [(5,vs sB sN sC),(6,vi v)]<| T_c (some 7) h ?_;clear h
 rintro a H1 ⟨x,rfl,h⟩
 refine⟨[(7,vi x)],pk,?_⟩
 exact T_nr 2 [4] [.bool (decide (x>=0))] hQ h
end bS

/-! slices.Index[[]int,int] -/
namespace cR
def K0:=Func.code Tryz.f143
def K2:=cb K0
def K3:=ca K2
def K6:=cb K3
def K7:=ca K6
def K8:=ca K7
end cR
def cR.pt(sB:zW)(sN sC:Nat)(v:Int)(H:zV)(R:zk):Prop:=
 ∃(I9:zv) (m9:Int->zV->Nat),I9 0 H/\ ∀(s8:Int) (H1:zV),I9 s8 H1->
 if s8< (sN:Int)then(
 ∃b:Addr,sB=some b/\
 zw s8 sN/\
 ∃x:Int,hat H1 (b.add (Int.toNat s8*1))=some (.int .i64 x)/\
 if v=x then(
 R (.int .i64 s8) H1)
 else
 (I9 (zY (s8+1)) H1/\m9 (zY (s8+1)) H1<m9 s8 H1))
 else
 R (.int .i64 (-1)) H1
namespace cR
theorem link{sB:zW}{sN sC:Nat}{v:Int}{H:zV}{R:zk}(h:pt sB sN sC v H R):C sB sN sC v H R:=by
 refine T_en K0 19 Tryz.func143 ?_
 intro w0 Q hQ
 unfold pt zY at h
 refine T_su [(0,vs sB sN sC),(1,vi v)]<| ar 0<| T_ed 1 [] []<| T_sz<| ar 1<| T_ed 3 [] [(7,vi sN),(8,vi 0)]<| T_bz 0 ?_
 obtain⟨I9,m9,i1,i2⟩:=h
 refine cu (x:=K8) (σ:=Int) (λs_=> [(0,vs sB sN sC),(1,vi v),(7,vi sN),(8,vi s_)]) (λs_ H=>I9 s_ H) (λs_ H=>m9 s_ H) (0:Int) (by kernel_rfl) i1 sk ?_
 rintro s8 H1 i3
 have h:=i2 s8 H1 i3
 refine T_su [(0,vs sB sN sC),(1,vi v),(7,vi sN),(8,vi s8)]<| ar 2<| T_ed 1 [] [(9,.bool (decide (s8< (sN:Int))))]<| T_sz ?_
 by_cases c4:s8< (sN:Int)
 ·rw[if_pos c4]at h
  refine aH 9 (zX c4)<| T_kt<| T_sz<| T_bz 1<| ar 3<| T_ed 2 [9] [(5,vi s8)]<| ar 4<| T_nd 3 [] [(11,vi v),(12,vs sB sN sC),(13,vi s8)] ?_
  obtain⟨b,rfl,q6,h⟩:=h
  refine T_xd (some 14) 60 3 1 b sN sC .i64 s8 Tryz.underlying60 q6.1 q6.2 [0,12,13] [(0,vs (some b) sN sC),(14,vp (some (b.add (Int.toNat s8*1))))] ?_
  obtain⟨x,q7,h⟩:=h
  refine T_l1 15 3 q7 [14]<| T_ed 1 [11,15] [(16,.bool (v==x))] ?_
  by_cases c8:v=x
  ·rw[if_pos c8]at h
   exact aH 16 (zK c8)<| ar 5<| T_nr 2 [4] [vi s8] hQ h
  rw[if_neg c8]at h
  exact aI 16 (zJ c8)<| T_k<| aC<| aB<| T_rz 6<| T_ed 2 [5,8,16] [(8,vi (zY (s8+1)))]<| aQ ((zY (s8+1)):Int) sk h
 rw[if_neg c4]at h
 exact aI 9 (zQ c4)<| zj 0<| aA<| aA<| aN<| aB<| ar 7<| T_nr 1 [4] [vi (-1)] hQ h
end cR

