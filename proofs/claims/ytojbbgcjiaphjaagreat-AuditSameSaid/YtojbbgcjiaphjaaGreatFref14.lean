/- Printed: what each function asks, and that it is sound. -/
import Derived.Test.YtojbbgcjiaphjaaGreatFnsC
set_option linter.unusedSimpArgs false
set_option linter.unusedVariables false
set_option maxRecDepth 100000
set_option maxHeartbeats 1000000
noncomputable section
namespace Go.Proofs.YtojbbgcjiaphjaaGreat
open Go
/-! moraine/moraineref14.Same -/
namespace cF
def K0:=Func.code Tryz.f10
def K2:=cb K0
def K4:=cb K2
def K9:=ca K4
def K12:=cb K9
def K13:=ca K12
def K14:=ca K13
def K16:=cb K14
def K21:=ca K16
def K23:=ca K21
def K24:=ca K23
def K25:=cb K23
def K27:=cb K25
def K32:=ca K27
def K33:=cb K27
def K35:=cb K32
def K36:=ca K35
def K37:=ca K36
def K54:=cb K33
def K55:=ca K54
def K56:=ca K55
end cF
def cF.pt(aB:zW)(aN aC:Nat)(bB:zW)(bN bC:Nat)(H:zV)(R:zv):Prop:=
 if(aN:Int)=(bN:Int)then(
 ∃(cz:zw) (m15:Int->zV->Nat),cz 0 H/\ ∀(i:Int) (H1:zV),cz i H1->
 if i< (aN:Int)then(
 ∃e:Addr,aB=some e/\
 yZ i aN/\
 ∃(aj ae af:Int) (o:zW) (q p:Nat) (ai:zW) (ag ah:Nat),aS H1 (e.add (Int.toNat i*5)) 0 [.int .i64 aj,.int .i64 ae,.int .u64 af,.slice o q p,.slice ai ag ah]/\
 ∃d:Addr,bB=some d/\
 yZ i bN/\
 ∃(ab r s:Int) (m:zW) (n l:Nat) (aa:zW) (z ac:Nat),aS H1 (d.add (Int.toNat i*5)) 0 [.int .i64 ab,.int .i64 r,.int .u64 s,.slice m n l,.slice aa z ac]/\
 (
 ∀(b:Nat) (H2:zV),b=H1.size->H2=H1.push (.cells #[.int .i64 0,.int .i64 0,.int .u64 0,.slice none 0 0,.slice none 0 0] 61)->aS H2 (e.add (Int.toNat i*5)) 0 [.int .i64 aj,.int .i64 ae,.int .u64 af,.slice o q p,.slice ai ag ah]/\aS H2 (d.add (Int.toNat i*5)) 0 [.int .i64 ab,.int .i64 r,.int .u64 s,.slice m n l,.slice aa z ac]/\
 ∀(j:Nat) (H3:zV),j=H2.size->H3=H2.push (.cells #[.int .i64 0,.int .i64 0,.int .u64 0,.slice none 0 0,.slice none 0 0] 61)->aS H3 (e.add (Int.toNat i*5)) 0 [.int .i64 aj,.int .i64 ae,.int .u64 af,.slice o q p,.slice ai ag ah]/\aS H3 (d.add (Int.toNat i*5)) 0 [.int .i64 ab,.int .i64 r,.int .u64 s,.slice m n l,.slice aa z ac]/\
 (aK H3 (ad b) 0 5)/\ ∀H4,H4=aU H3 (ad b) [.int .i64 aj,.int .i64 ae,.int .u64 af,.slice o q p,.slice ai ag ah] 0->aS H4 (d.add (Int.toNat i*5)) 0 [.int .i64 ab,.int .i64 r,.int .u64 s,.slice m n l,.slice aa z ac]/\
 (aK H4 (ad j) 0 5)/\ ∀H5,H5=aU H4 (ad j) [.int .i64 ab,.int .i64 r,.int .u64 s,.slice m n l,.slice aa z ac] 0->
 ∃x:Int,hat H5 (ad b)=some (.int .i64 x)/\
 ∃ch:Int,hat H5 (ad j)=some (.int .i64 ch)/\
 if x=ch then(
 ∃b0:Int,hat H5 ((ad b).add 1)=some (.int .i64 b0)/\
 ∃cg:Int,hat H5 ((ad j).add 1)=some (.int .i64 cg)/\
 if b0=cg then(
 ∃b1:Int,hat H5 ((ad b).add 2)=some (.int .u64 b1)/\
 ∃ci:Int,hat H5 ((ad j).add 2)=some (.int .u64 ci)/\
 if b1=ci then(
 ∃(xB:zW) (xN xC:Nat),hat H5 ((ad b).add 3)=some (.slice xB xN xC)/\
 ∃(c8:zW) (bj c7:Nat),hat H5 ((ad j).add 3)=some (.slice c8 bj c7)/\
 if(xN:Int)=(bj:Int)then(
 ∃(c2:zW) (a0 db:Nat),hat H5 ((ad b).add 4)=some (.slice c2 a0 db)/\
 ∃(c4:zW) (bh c5:Nat),hat H5 ((ad j).add 4)=some (.slice c4 bh c5)/\
 if(a0:Int)=(bh:Int)then(
 ∃(dc:zw) (m38:Int->zV->Nat),dc 0 H5/\ ∀(k:Int) (H6:zV),dc k H6->
 ∃(c3:zW) (bo da:Nat),hat H6 ((ad b).add 3)=some (.slice c3 bo da)/\
 if k< (bo:Int)then(
 ∃(cl:zW) (bu cd:Nat),hat H6 ((ad b).add 3)=some (.slice cl bu cd)/\
 ∃br:Addr,cl=some br/\
 yZ k bu/\
 ∃aq:Int,hat H6 (br.add (Int.toNat k*1))=some (.int .u64 aq)/\
 ∃(ck:zW) (bt ce:Nat),hat H6 ((ad j).add 3)=some (.slice ck bt ce)/\
 ∃bx:Addr,ck=some bx/\
 yZ k bt/\
 ∃bz:Int,hat H6 (bx.add (Int.toNat k*1))=some (.int .u64 bz)/\
 if aq=bz then(
 (dc (zY (k+1)) H6/\m38 (zY (k+1)) H6<m38 k H6))
 else
 R (.bool false) H6)
 else
 ∃(dd:zw) (m57:Int->zV->Nat),dd 0 H6/\ ∀(y:Int) (H7:zV),dd y H7->
 ∃(c0:zW) (bl c9:Nat),hat H7 ((ad b).add 4)=some (.slice c0 bl c9)/\
 if y< (bl:Int)then(
 ∃(cj:zW) (b3 cc:Nat),hat H7 ((ad b).add 4)=some (.slice cj b3 cc)/\
 ∃bs:Addr,cj=some bs/\
 yZ y b3/\
 ∃ap:Int,hat H7 (bs.add (Int.toNat y*1))=some (.int .i64 ap)/\
 ∃(b6:zW) (a5 bn:Nat),hat H7 ((ad j).add 4)=some (.slice b6 a5 bn)/\
 ∃bd:Addr,b6=some bd/\
 yZ y a5/\
 ∃az:Int,hat H7 (bd.add (Int.toNat y*1))=some (.int .i64 az)/\
 if ap=az then(
 (dd (zY (y+1)) H7/\m57 (zY (y+1)) H7<m57 y H7))
 else
 R (.bool false) H7)
 else
 (cz (zY (i+1)) H7/\m15 (zY (i+1)) H7<m15 i H1))
 else
 R (.bool false) H5)
 else
 R (.bool false) H5)
 else
 R (.bool false) H5)
 else
 R (.bool false) H5)
 else
 R (.bool false) H5)/\(
 ∀(g:Nat) (H8:zV),g=H1.size->H8=H1.push (.cells #[.int .i64 0,.int .i64 0,.int .u64 0,.slice none 0 0,.slice none 0 0] 61)->aS H8 (e.add (Int.toNat i*5)) 0 [.int .i64 aj,.int .i64 ae,.int .u64 af,.slice o q p,.slice ai ag ah]/\aS H8 (d.add (Int.toNat i*5)) 0 [.int .i64 ab,.int .i64 r,.int .u64 s,.slice m n l,.slice aa z ac]/\
 ∀(f:Nat) (H9:zV),f=H8.size->H9=H8.push (.cells #[.int .i64 0,.int .i64 0,.int .u64 0,.slice none 0 0,.slice none 0 0] 61)->aS H9 (e.add (Int.toNat i*5)) 0 [.int .i64 aj,.int .i64 ae,.int .u64 af,.slice o q p,.slice ai ag ah]/\aS H9 (d.add (Int.toNat i*5)) 0 [.int .i64 ab,.int .i64 r,.int .u64 s,.slice m n l,.slice aa z ac]/\
 (aK H9 (ad f) 0 5)/\ ∀cy,cy=aU H9 (ad f) [.int .i64 aj,.int .i64 ae,.int .u64 af,.slice o q p,.slice ai ag ah] 0->aS cy (d.add (Int.toNat i*5)) 0 [.int .i64 ab,.int .i64 r,.int .u64 s,.slice m n l,.slice aa z ac]/\
 (aK cy (ad g) 0 5)/\ ∀ao,ao=aU cy (ad g) [.int .i64 ab,.int .i64 r,.int .u64 s,.slice m n l,.slice aa z ac] 0->
 ∃ay:Int,hat ao (ad f)=some (.int .i64 ay)/\
 ∃bk:Int,hat ao (ad g)=some (.int .i64 bk)/\
 if ay=bk then(
 ∃a2:Int,hat ao ((ad f).add 1)=some (.int .i64 a2)/\
 ∃bi:Int,hat ao ((ad g).add 1)=some (.int .i64 bi)/\
 if a2=bi then(
 ∃a1:Int,hat ao ((ad f).add 2)=some (.int .u64 a1)/\
 ∃bq:Int,hat ao ((ad g).add 2)=some (.int .u64 bq)/\
 if a1=bq then(
 ∃(cv:zW) (an cp:Nat),hat ao ((ad f).add 3)=some (.slice cv an cp)/\
 ∃(cs:zW) (ax cm:Nat),hat ao ((ad g).add 3)=some (.slice cs ax cm)/\
 if(an:Int)=(ax:Int)then(
 ∃(cn:zW) (am cx:Nat),hat ao ((ad f).add 4)=some (.slice cn am cx)/\
 ∃(cu:zW) (av co:Nat),hat ao ((ad g).add 4)=some (.slice cu av co)/\
 if(am:Int)=(av:Int)then(
 ∃(bw:zw) (m74:Int->zV->Nat),bw 0 ao/\ ∀(v:Int) (H12:zV),bw v H12->
 ∃(cr:zW) (aw cq:Nat),hat H12 ((ad f).add 3)=some (.slice cr aw cq)/\
 if v< (aw:Int)then(
 ∃(b4:zW) (bb bm:Nat),hat H12 ((ad f).add 3)=some (.slice b4 bb bm)/\
 ∃a6:Addr,b4=some a6/\
 yZ v bb/\
 ∃ak:Int,hat H12 (a6.add (Int.toNat v*1))=some (.int .u64 ak)/\
 ∃(b5:zW) (bc bp:Nat),hat H12 ((ad g).add 3)=some (.slice b5 bc bp)/\
 ∃be:Addr,b5=some be/\
 yZ v bc/\
 ∃a4:Int,hat H12 (be.add (Int.toNat v*1))=some (.int .u64 a4)/\
 if ak=a4 then(
 (bw (zY (v+1)) H12/\m74 (zY (v+1)) H12<m74 v H12))
 else
 R (.bool false) H12)
 else
 ∃(bw:zw) (m74:Int->zV->Nat),bw 0 H12/\ ∀(u:Int) (H13:zV),bw u H13->
 ∃(ct:zW) (au cw:Nat),hat H13 ((ad f).add 4)=some (.slice ct au cw)/\
 if u< (au:Int)then(
 ∃(b8:zW) (a8 bf:Nat),hat H13 ((ad f).add 4)=some (.slice b8 a8 bf)/\
 ∃a9:Addr,b8=some a9/\
 yZ u a8/\
 ∃al:Int,hat H13 (a9.add (Int.toNat u*1))=some (.int .i64 al)/\
 ∃(b9:zW) (a7 bg:Nat),hat H13 ((ad g).add 4)=some (.slice b9 a7 bg)/\
 ∃ba:Addr,b9=some ba/\
 yZ u a7/\
 ∃a3:Int,hat H13 (ba.add (Int.toNat u*1))=some (.int .i64 a3)/\
 if al=a3 then(
 (bw (zY (u+1)) H13/\m74 (zY (u+1)) H13<m74 u H13))
 else
 R (.bool false) H13)
 else
 (cz (zY (i+1)) H13/\m15 (zY (i+1)) H13<m15 i H1))
 else
 R (.bool false) ao)
 else
 R (.bool false) ao)
 else
 R (.bool false) ao)
 else
 R (.bool false) ao)
 else
 R (.bool false) ao))
 else
 R (.bool true) H1)
 else
 R (.bool false) H
namespace cF
theorem link{aB:zW}{aN aC:Nat}{bB:zW}{bN bC:Nat}{H:zV}{R:zv}(h:pt aB aN aC bB bN bC H R):C aB aN aC bB bN bC H R:=by
 refine T_en K0 102 Tryz.func10 ?_
 intro w0 Q hQ
 unfold pt zY at h
 refine T_su [(0,vs aB aN aC),(1,vs bB bN bC)]<| ar 0<| T_ed 1 [] []<| T_sz<| ar 1<| T_ed 5 [] [(14,.bool ((aN:Int) !=(bN:Int)))] ?_
 by_cases c1:(aN:Int)=(bN:Int)
 ·rw[if_pos c1]at h
  refine aM 14 (bne_eq_false_iff_eq.mpr c1)<| T_kt<| T_sz<| ar 3<| T_ed 1 [14] [(5,vi 0)]<| T_bz 0 ?_
  obtain⟨cz,m15,i3,i4⟩:=h
  refine dE (x:=K14) (σ:=Int) (λs_=> [(0,vs aB aN aC),(1,vs bB bN bC),(5,vi s_)]) (λs_ H=>cz s_ H) (λs_ H=>m15 s_ H) (0:Int) (by kernel_rfl) i3 sk ?_
  rintro i H1 i5
  have h:=i4 i H1 i5
  refine T_su [(0,vs aB aN aC),(1,vs bB bN bC),(5,vi i)]<| T_sz<| ar 4<| T_ed 4 [] [(18,.bool (decide (i< (aN:Int))))] ?_
  by_cases c6:i< (aN:Int)
  ·rw[if_pos c6]at h
   refine aL 18 (zX c6)<| T_kt<| T_sz<| T_bz 1<| T_sz ?_
   obtain⟨e,rfl,q8,aj,ae,af,o,q,p,ai,ag,ah,q9,d,rfl,q10,ab,r,s,m,n,l,aa,z,ac,q11,h⟩:=h
   refine yq 6 (Code.ops K24) [(10,(e.add (Int.toNat i*5)),[vi aj,vi ae,vu af,vs o q p,vs ai ag ah]),(11,(d.add (Int.toNat i*5)),[vi ab,vi r,vu s,vs m n l,vs aa z ac])] 12 (bv 12 0) (show aJ _ _ _ from⟨q9,q11,trivial⟩)<| T_gp 0 (some 21) (vs (some e) aN aC) (bv 12 1) [(0,vs (some e) aN aC),(1,vs (some d) bN bC),(5,vi i),(21,vs (some e) aN aC)]<| bM 1 22 (vi i) (bv 12 3) []<| T_g1 2 23 (vp (some (e.add (Int.toNat i*5)))) (bv 12 7) [21,22] (aZ 22 (vs (some e) aN aC) (vi i)) (λ_ w _ _ _=>bL (P:=Tryz.prog) (t:=22) (elem:=61) (sz:=5) (a:=e) (len:=aN) (cap:=aC) (k:=.i64) (i:=i) Tryz.underlying22 (λ_=>by kernel_rfl) q8.1 q8.2 w)<| T_g1 3 24 (.agg #[vi aj,vi ae,vu af,vs o q p,vs ai ag ah]) (bv 12 15) [23] (bH 61 (vp (some (e.add (Int.toNat i*5))))) (lv 10 (λ_=>by kernel_rfl) (λ_=>by kernel_rfl) yX (.inl (by kernel_rfl)))<| bM 4 25 (vs (some d) bN bC) (bv 12 31) []<| bM 5 26 (vi i) (bv 12 63) []<| T_g1 6 27 (vp (some (d.add (Int.toNat i*5)))) (bv 12 127) [25,26] (aZ 22 (vs (some d) bN bC) (vi i)) (λ_ w _ _ _=>bL (P:=Tryz.prog) (t:=22) (elem:=61) (sz:=5) (a:=d) (len:=bN) (cap:=bC) (k:=.i64) (i:=i) Tryz.underlying22 (λ_=>by kernel_rfl) q10.1 q10.2 w)<| T_g1 7 28 (.agg #[vi ab,vi r,vu s,vs m n l,vs aa z ac]) (bv 12 255) [27] (bH 61 (vp (some (d.add (Int.toNat i*5))))) (lv 11 (λ_=>by kernel_rfl) (λ_=>by kernel_rfl) yQ (.inl (by kernel_rfl))) ?_
   refine mx 8 9 (by kernel_rfl) ?_ ?_
   ·replace h:=h.1
    refine mQ 8 (some 6) (bv 12 511) (λb=>vp (pa b)) (.cells #[vi 0,vi 0,vu 0,vs none 0 0,vs none 0 0] 61) (by kernel_rfl) (λ_=>by kernel_rfl) (by kernel_rfl) ?_
    intro b H2 e14 e15
    replace h:=h b H2 e14 e15
    obtain⟨f12,f13,h⟩:=h
    refine⟨[(0,vs (some e) aN aC),(1,vs (some d) bN bC),(5,vi i),(6,vp (pa b)),(24,.agg #[vi aj,vi ae,vu af,vs o q p,vs ai ag ah]),(28,.agg #[vi ab,vi r,vu s,vs m n l,vs aa z ac])],pk,(show aJ _ _ _ from⟨f12,f13,trivial⟩),?_⟩
    refine mP 9 (some 7) (bv 12 1023) (λb=>vp (pa b)) (.cells #[vi 0,vi 0,vu 0,vs none 0 0,vs none 0 0] 61) (by kernel_rfl) (λ_=>by kernel_rfl) (by kernel_rfl) ?_
    intro j H3 e18 e19
    replace h:=h j H3 e18 e19
    obtain⟨f16,f17,h⟩:=h
    refine⟨[(0,vs (some e) aN aC),(1,vs (some d) bN bC),(5,vi i),(6,vp (pa b)),(7,vp (pa j)),(24,.agg #[vi aj,vi ae,vu af,vs o q p,vs ai ag ah]),(28,.agg #[vi ab,vi r,vu s,vs m n l,vs aa z ac])],pk,(show aJ _ _ _ from⟨f16,f17,trivial⟩),?_⟩
    obtain⟨q22,h⟩:=h
    refine fR 10 none (bv 12 2047) (gL 61 (vp (pa b)) (.agg #[vi aj,vi ae,vu af,vs o q p,vs ai ag ah])) (λHz=>Hz=aU H3 (ad b) [vi aj,vi ae,vu af,vs o q p,vs ai ag ah] 0) (by kernel_rfl) (λ_=>by kernel_rfl) (go [vi aj,vi ae,vu af,vs o q p,vs ai ag ah] 5 (by kernel_rfl) (by kernel_rfl) (λ_=>by kernel_rfl) (by kernel_rfl) q22) (by kernel_rfl) ?_
    intro H4 e21
    replace h:=h H4 e21
    obtain⟨f20,h⟩:=h
    refine⟨[(0,vs (some e) aN aC),(1,vs (some d) bN bC),(5,vi i),(6,vp (pa b)),(7,vp (pa j)),(28,.agg #[vi ab,vi r,vu s,vs m n l,vs aa z ac])],pk,(show aJ _ _ _ from⟨trivial,f20,trivial⟩),?_⟩
    obtain⟨q24,h⟩:=h
    refine fR 11 none (bv 12 4095) (gL 61 (vp (pa j)) (.agg #[vi ab,vi r,vu s,vs m n l,vs aa z ac])) (λHz=>Hz=aU H4 (ad j) [vi ab,vi r,vu s,vs m n l,vs aa z ac] 0) (by kernel_rfl) (λ_=>by kernel_rfl) (go [vi ab,vi r,vu s,vs m n l,vs aa z ac] 5 (by kernel_rfl) (by kernel_rfl) (λ_=>by kernel_rfl) (by kernel_rfl) q24) (by kernel_rfl) ?_
    intro H5 e23
    replace h:=h H5 e23
    refine⟨[(0,vs (some e) aN aC),(1,vs (some d) bN bC),(5,vi i),(6,vp (pa b)),(7,vp (pa j))],pk,(show aJ _ _ _ from⟨trivial,trivial,trivial⟩),?_⟩
    refine gT [(0,vs (some e) aN aC),(1,vs (some d) bN bC),(5,vi i),(6,vp (pa b)),(7,vp (pa j))] sk ?_
    refine yz<| aE<| T_sz<| ar 7<| T_n 1 [(0,vs (some e) aN aC),(1,vs (some d) bN bC),(5,vi i),(6,vp (pa b)),(7,vp (pa j)),(29,vp (pa b))] ?_
    obtain⟨x,q25,h⟩:=h
    refine T_l1 30 3 q25 [29]<| T_nd 1 [] [(31,vp (pa j))] ?_
    obtain⟨ch,q26,h⟩:=h
    refine T_l1 32 3 q26 [31]<| T_nd 2 [30,32] [(34,.bool (x !=ch))] ?_
    by_cases c27:x=ch
    ·rw[if_pos c27]at h
     refine N_bd 34 (bne_eq_false_iff_eq.mpr c27)<| T_nd 1 [] [(35,vp (some ((ad b).add 1)))] ?_
     obtain⟨b0,q29,h⟩:=h
     refine T_l1 36 3 q29 [35]<| T_nd 1 [] [(37,vp (some ((ad j).add 1)))] ?_
     obtain⟨cg,q30,h⟩:=h
     refine T_l1 38 3 q30 [37]<| T_nd 3 [34,36,38] [(41,.bool (b0 !=cg))] ?_
     by_cases c31:b0=cg
     ·rw[if_pos c31]at h
      refine N_bd 41 (bne_eq_false_iff_eq.mpr c31)<| T_nd 1 [] [(42,vp (some ((ad b).add 2)))] ?_
      obtain⟨b1,q33,h⟩:=h
      refine T_l1 43 35 q33 [42]<| T_nd 1 [] [(44,vp (some ((ad j).add 2)))] ?_
      obtain⟨ci,q34,h⟩:=h
      refine T_l1 45 35 q34 [44]<| T_nd 3 [41,43,45] [(48,.bool (b1 !=ci))] ?_
      by_cases c35:b1=ci
      ·rw[if_pos c35]at h
       refine N_bd 48 (bne_eq_false_iff_eq.mpr c35)<| T_nd 1 [] [(49,vp (some ((ad b).add 3)))] ?_
       obtain⟨xB,xN,xC,q37,h⟩:=h
       refine T_l1 50 29 q37 [49]<| T_nd 2 [50] [(51,vi xN),(52,vp (some ((ad j).add 3)))] ?_
       obtain⟨c8,bj,c7,q38,h⟩:=h
       refine T_l1 53 29 q38 [52]<| T_nd 4 [48,51,53] [(57,.bool ((xN:Int) !=(bj:Int)))] ?_
       by_cases c39:(xN:Int)=(bj:Int)
       ·rw[if_pos c39]at h
        refine N_bd 57 (bne_eq_false_iff_eq.mpr c39)<| T_nd 1 [] [(58,vp (some ((ad b).add 4)))] ?_
        obtain⟨c2,a0,db,q41,h⟩:=h
        refine T_l1 59 59 q41 [58]<| T_nd 2 [59] [(60,vi a0),(61,vp (some ((ad j).add 4)))] ?_
        obtain⟨c4,bh,c5,q42,h⟩:=h
        refine T_l1 62 59 q42 [61]<| T_ed 3 [57,60,62] [(65,.bool ((a0:Int) !=(bh:Int)))] ?_
        by_cases c43:(a0:Int)=(bh:Int)
        ·rw[if_pos c43]at h
         refine aM 65 (bne_eq_false_iff_eq.mpr c43)<| T_kt<| T_sz<| ar 9<| T_ed 1 [65] [(8,vi 0)]<| T_bz 2 ?_
         obtain⟨dc,m38,i45,i46⟩:=h
         refine dE (x:=K37) (σ:=Int) (λs_=> [(0,vs (some e) aN aC),(1,vs (some d) bN bC),(5,vi i),(6,vp (pa b)),(7,vp (pa j)),(8,vi s_)]) (λs_ H=>dc s_ H) (λs_ H=>m38 s_ H) (0:Int) (by kernel_rfl) i45 sk ?_
         rintro k H6 i47
         have h:=i46 k H6 i47
         refine T_su [(0,vs (some e) aN aC),(1,vs (some d) bN bC),(5,vi i),(6,vp (pa b)),(7,vp (pa j)),(8,vi k)]<| T_sz<| ar 10<| T_nd 2 [] [(66,vi k),(67,vp (some ((ad b).add 3)))] ?_
         obtain⟨c3,bo,da,q48,h⟩:=h
         refine T_l1 68 29 q48 [67]<| T_ed 2 [66,68] [(70,.bool (decide (k< (bo:Int))))] ?_
         by_cases c49:k< (bo:Int)
         ·rw[if_pos c49]at h
          refine aL 70 (zX c49)<| T_kt<| T_sz<| T_bz 3<| T_sz<| ky 12<| T_q1 73 (vp (some ((ad b).add 3))) [70] ?_
          obtain⟨cl,bu,cd,q51,h⟩:=h
          refine jO (some 74) 29 q51 [73] [(74,vs cl bu cd)]<| T_q1 75 (vi k) [] ?_
          obtain⟨br,rfl,q52,h⟩:=h
          refine Q_op (some 76) (aZ 29 (vs (some br) bu cd) (vi k)) (vp (some (br.add (Int.toNat k*1)))) (λ_=>by kernel_rfl) (λw _=>bL (P:=Tryz.prog) (t:=29) (elem:=40) (sz:=1) (a:=br) (len:=bu) (cap:=cd) (k:=.i64) (i:=k) Tryz.underlying29 (λ_=>by kernel_rfl) q52.1 q52.2 w) [(0,vs (some e) aN aC),(1,vs (some d) bN bC),(5,vi i),(6,vp (pa b)),(7,vp (pa j)),(8,vi k),(76,vp (some (br.add (Int.toNat k*1))))] pk ?_
          obtain⟨aq,q53,h⟩:=h
          refine T_ql (some 77) 40 q53 [(0,vs (some e) aN aC),(1,vs (some d) bN bC),(5,vi i),(6,vp (pa b)),(7,vp (pa j)),(8,vi k),(77,vu aq)]<| T_q1 78 (vp (some ((ad j).add 3))) [] ?_
          obtain⟨ck,bt,ce,q54,h⟩:=h
          refine jO (some 79) 29 q54 [78] [(79,vs ck bt ce)]<| T_q1 80 (vi k) [] ?_
          obtain⟨bx,rfl,q55,h⟩:=h
          refine Q_op (some 81) (aZ 29 (vs (some bx) bt ce) (vi k)) (vp (some (bx.add (Int.toNat k*1)))) (λ_=>by kernel_rfl) (λw _=>bL (P:=Tryz.prog) (t:=29) (elem:=40) (sz:=1) (a:=bx) (len:=bt) (cap:=ce) (k:=.i64) (i:=k) Tryz.underlying29 (λ_=>by kernel_rfl) q55.1 q55.2 w) [(0,vs (some e) aN aC),(1,vs (some d) bN bC),(5,vi i),(6,vp (pa b)),(7,vp (pa j)),(8,vi k),(77,vu aq),(81,vp (some (bx.add (Int.toNat k*1))))] pk ?_
          obtain⟨bz,q56,h⟩:=h
          refine T_ql (some 82) 40 q56 [(0,vs (some e) aN aC),(1,vs (some d) bN bC),(5,vi i),(6,vp (pa b)),(7,vp (pa j)),(8,vi k),(77,vu aq),(82,vu bz)]<| T_q1 83 (.bool (aq !=bz)) [77,82]<| jN [(0,vs (some e) aN aC),(1,vs (some d) bN bC),(5,vi i),(6,vp (pa b)),(7,vp (pa j)),(8,vi k),(83,.bool (aq !=bz))] sk<| T_qe ?_
          by_cases c57:aq=bz
          ·rw[if_pos c57]at h
           exact aM 83 (bne_eq_false_iff_eq.mpr c57)<| T_k<| aA<| aE<| T_rz 11<| T_ne 3 [(0,vs (some e) aN aC),(1,vs (some d) bN bC),(5,vi i),(6,vp (pa b)),(7,vp (pa j)),(8,vi (zY (k+1)))]<| bK ((zY (k+1)):Int) sk h
          rw[if_neg c57]at h
          exact aL 83 (bne_iff_ne.mpr c57)<| ar 13<| T_nr 1 [4] [.bool false] hQ h
         rw[if_neg c49]at h
         refine aM 70 (zQ c49)<| zk 2<| aD<| aD<| aQ<| aE<| ar 14<| T_ed 1 [8,70] [(9,vi 0)]<| T_bz 4 ?_
         obtain⟨dd,m57,i59,i60⟩:=h
         refine dE (x:=K56) (σ:=Int) (λs_=> [(0,vs (some e) aN aC),(1,vs (some d) bN bC),(5,vi i),(6,vp (pa b)),(7,vp (pa j)),(9,vi s_)]) (λs_ H=>dd s_ H) (λs_ H=>m57 s_ H) (0:Int) (by kernel_rfl) i59 sk ?_
         rintro y H7 i61
         have h:=i60 y H7 i61
         refine T_su [(0,vs (some e) aN aC),(1,vs (some d) bN bC),(5,vi i),(6,vp (pa b)),(7,vp (pa j)),(9,vi y)]<| T_sz<| ar 15<| T_nd 2 [] [(84,vi y),(85,vp (some ((ad b).add 4)))] ?_
         obtain⟨c0,bl,c9,q62,h⟩:=h
         refine T_l1 86 59 q62 [85]<| T_ed 2 [84,86] [(88,.bool (decide (y< (bl:Int))))] ?_
         by_cases c63:y< (bl:Int)
         ·rw[if_pos c63]at h
          refine aL 88 (zX c63)<| T_kt<| T_sz<| T_bz 5<| T_sz<| ky 17<| T_q1 91 (vp (some ((ad b).add 4))) [88] ?_
          obtain⟨cj,b3,cc,q65,h⟩:=h
          refine jO (some 92) 59 q65 [91] [(92,vs cj b3 cc)]<| T_q1 93 (vi y) [] ?_
          obtain⟨bs,rfl,q66,h⟩:=h
          refine Q_op (some 94) (aZ 59 (vs (some bs) b3 cc) (vi y)) (vp (some (bs.add (Int.toNat y*1)))) (λ_=>by kernel_rfl) (λw _=>bL (P:=Tryz.prog) (t:=59) (elem:=3) (sz:=1) (a:=bs) (len:=b3) (cap:=cc) (k:=.i64) (i:=y) Tryz.underlying59 (λ_=>by kernel_rfl) q66.1 q66.2 w) [(0,vs (some e) aN aC),(1,vs (some d) bN bC),(5,vi i),(6,vp (pa b)),(7,vp (pa j)),(9,vi y),(94,vp (some (bs.add (Int.toNat y*1))))] pk ?_
          obtain⟨ap,q67,h⟩:=h
          refine T_ql (some 95) 3 q67 [(0,vs (some e) aN aC),(1,vs (some d) bN bC),(5,vi i),(6,vp (pa b)),(7,vp (pa j)),(9,vi y),(95,vi ap)]<| T_q1 96 (vp (some ((ad j).add 4))) [] ?_
          obtain⟨b6,a5,bn,q68,h⟩:=h
          refine jO (some 97) 59 q68 [96] [(97,vs b6 a5 bn)]<| T_q1 98 (vi y) [] ?_
          obtain⟨bd,rfl,q69,h⟩:=h
          refine Q_op (some 99) (aZ 59 (vs (some bd) a5 bn) (vi y)) (vp (some (bd.add (Int.toNat y*1)))) (λ_=>by kernel_rfl) (λw _=>bL (P:=Tryz.prog) (t:=59) (elem:=3) (sz:=1) (a:=bd) (len:=a5) (cap:=bn) (k:=.i64) (i:=y) Tryz.underlying59 (λ_=>by kernel_rfl) q69.1 q69.2 w) [(0,vs (some e) aN aC),(1,vs (some d) bN bC),(5,vi i),(6,vp (pa b)),(7,vp (pa j)),(9,vi y),(95,vi ap),(99,vp (some (bd.add (Int.toNat y*1))))] pk ?_
          obtain⟨az,q70,h⟩:=h
          refine T_ql (some 100) 3 q70 [(0,vs (some e) aN aC),(1,vs (some d) bN bC),(5,vi i),(6,vp (pa b)),(7,vp (pa j)),(9,vi y),(95,vi ap),(100,vi az)]<| T_q1 101 (.bool (ap !=az)) [95,100]<| jN [(0,vs (some e) aN aC),(1,vs (some d) bN bC),(5,vi i),(6,vp (pa b)),(7,vp (pa j)),(9,vi y),(101,.bool (ap !=az))] sk<| T_qe ?_
          by_cases c71:ap=az
          ·rw[if_pos c71]at h
           exact aM 101 (bne_eq_false_iff_eq.mpr c71)<| T_k<| aA<| aE<| T_rz 16<| T_ne 3 [(0,vs (some e) aN aC),(1,vs (some d) bN bC),(5,vi i),(6,vp (pa b)),(7,vp (pa j)),(9,vi (zY (y+1)))]<| bK ((zY (y+1)):Int) sk h
          rw[if_neg c71]at h
          exact aL 101 (bne_iff_ne.mpr c71)<| ar 18<| T_nr 1 [4] [.bool false] hQ h
         rw[if_neg c63]at h
         exact aM 88 (zQ c63)<| zk 4<| aD<| aD<| aQ<| aA<| aE<| T_rz 5<| T_ed 3 [5,6,7,9,88] [(5,vi (zY (i+1)))]<| bK ((zY (i+1)):Int) sk h
        rw[if_neg c43]at h
        exact aL 65 (bne_iff_ne.mpr c43)<| ar 8<| T_nr 1 [4] [.bool false] hQ h
       rw[if_neg c39]at h
       exact N_bd 57 (bne_iff_ne.mpr c39)<| T_ed 8 [57] [(65,.bool true)]<| T_tz 65<| ar 8<| T_nr 1 [4] [.bool false] hQ h
      rw[if_neg c35]at h
      exact N_bd 48 (bne_iff_ne.mpr c35)<| T_ed 17 [48] [(65,.bool true)]<| T_tz 65<| ar 8<| T_nr 1 [4] [.bool false] hQ h
     rw[if_neg c31]at h
     exact N_bd 41 (bne_iff_ne.mpr c31)<| T_ed 24 [41] [(65,.bool true)]<| T_tz 65<| ar 8<| T_nr 1 [4] [.bool false] hQ h
    rw[if_neg c27]at h
    exact N_bd 34 (bne_iff_ne.mpr c27)<| T_ed 31 [34] [(65,.bool true)]<| T_tz 65<| ar 8<| T_nr 1 [4] [.bool false] hQ h
   replace h:=h.2
   refine mQ 9 (some 7) (bv 12 767) (λb=>vp (pa b)) (.cells #[vi 0,vi 0,vu 0,vs none 0 0,vs none 0 0] 61) (by kernel_rfl) (λ_=>by kernel_rfl) (by kernel_rfl) ?_
   intro g H8 e75 e76
   replace h:=h g H8 e75 e76
   obtain⟨f73,f74,h⟩:=h
   refine⟨[(0,vs (some e) aN aC),(1,vs (some d) bN bC),(5,vi i),(7,vp (pa g)),(24,.agg #[vi aj,vi ae,vu af,vs o q p,vs ai ag ah]),(28,.agg #[vi ab,vi r,vu s,vs m n l,vs aa z ac])],pk,(show aJ _ _ _ from⟨f73,f74,trivial⟩),?_⟩
   refine mP 8 (some 6) (bv 12 1023) (λb=>vp (pa b)) (.cells #[vi 0,vi 0,vu 0,vs none 0 0,vs none 0 0] 61) (by kernel_rfl) (λ_=>by kernel_rfl) (by kernel_rfl) ?_
   intro f H9 e79 e80
   replace h:=h f H9 e79 e80
   obtain⟨f77,f78,h⟩:=h
   refine⟨[(0,vs (some e) aN aC),(1,vs (some d) bN bC),(5,vi i),(6,vp (pa f)),(7,vp (pa g)),(24,.agg #[vi aj,vi ae,vu af,vs o q p,vs ai ag ah]),(28,.agg #[vi ab,vi r,vu s,vs m n l,vs aa z ac])],pk,(show aJ _ _ _ from⟨f77,f78,trivial⟩),?_⟩
   obtain⟨q83,h⟩:=h
   refine fR 10 none (bv 12 2047) (gL 61 (vp (pa f)) (.agg #[vi aj,vi ae,vu af,vs o q p,vs ai ag ah])) (λHz=>Hz=aU H9 (ad f) [vi aj,vi ae,vu af,vs o q p,vs ai ag ah] 0) (by kernel_rfl) (λ_=>by kernel_rfl) (go [vi aj,vi ae,vu af,vs o q p,vs ai ag ah] 5 (by kernel_rfl) (by kernel_rfl) (λ_=>by kernel_rfl) (by kernel_rfl) q83) (by kernel_rfl) ?_
   intro cy e82
   replace h:=h cy e82
   obtain⟨f81,h⟩:=h
   refine⟨[(0,vs (some e) aN aC),(1,vs (some d) bN bC),(5,vi i),(6,vp (pa f)),(7,vp (pa g)),(28,.agg #[vi ab,vi r,vu s,vs m n l,vs aa z ac])],pk,(show aJ _ _ _ from⟨trivial,f81,trivial⟩),?_⟩
   obtain⟨q85,h⟩:=h
   refine fR 11 none (bv 12 4095) (gL 61 (vp (pa g)) (.agg #[vi ab,vi r,vu s,vs m n l,vs aa z ac])) (λHz=>Hz=aU cy (ad g) [vi ab,vi r,vu s,vs m n l,vs aa z ac] 0) (by kernel_rfl) (λ_=>by kernel_rfl) (go [vi ab,vi r,vu s,vs m n l,vs aa z ac] 5 (by kernel_rfl) (by kernel_rfl) (λ_=>by kernel_rfl) (by kernel_rfl) q85) (by kernel_rfl) ?_
   intro ao e84
   replace h:=h ao e84
   refine⟨[(0,vs (some e) aN aC),(1,vs (some d) bN bC),(5,vi i),(6,vp (pa f)),(7,vp (pa g))],pk,(show aJ _ _ _ from⟨trivial,trivial,trivial⟩),?_⟩
   refine gT [(0,vs (some e) aN aC),(1,vs (some d) bN bC),(5,vi i),(6,vp (pa f)),(7,vp (pa g))] sk ?_
   refine yz<| aE<| T_sz<| ar 7<| T_n 1 [(0,vs (some e) aN aC),(1,vs (some d) bN bC),(5,vi i),(6,vp (pa f)),(7,vp (pa g)),(29,vp (pa f))] ?_
   obtain⟨ay,q86,h⟩:=h
   refine T_l1 30 3 q86 [29]<| T_nd 1 [] [(31,vp (pa g))] ?_
   obtain⟨bk,q87,h⟩:=h
   refine T_l1 32 3 q87 [31]<| T_nd 2 [30,32] [(34,.bool (ay !=bk))] ?_
   by_cases c88:ay=bk
   ·rw[if_pos c88]at h
    refine N_bd 34 (bne_eq_false_iff_eq.mpr c88)<| T_nd 1 [] [(35,vp (some ((ad f).add 1)))] ?_
    obtain⟨a2,q90,h⟩:=h
    refine T_l1 36 3 q90 [35]<| T_nd 1 [] [(37,vp (some ((ad g).add 1)))] ?_
    obtain⟨bi,q91,h⟩:=h
    refine T_l1 38 3 q91 [37]<| T_nd 3 [34,36,38] [(41,.bool (a2 !=bi))] ?_
    by_cases c92:a2=bi
    ·rw[if_pos c92]at h
     refine N_bd 41 (bne_eq_false_iff_eq.mpr c92)<| T_nd 1 [] [(42,vp (some ((ad f).add 2)))] ?_
     obtain⟨a1,q94,h⟩:=h
     refine T_l1 43 35 q94 [42]<| T_nd 1 [] [(44,vp (some ((ad g).add 2)))] ?_
     obtain⟨bq,q95,h⟩:=h
     refine T_l1 45 35 q95 [44]<| T_nd 3 [41,43,45] [(48,.bool (a1 !=bq))] ?_
     by_cases c96:a1=bq
     ·rw[if_pos c96]at h
      refine N_bd 48 (bne_eq_false_iff_eq.mpr c96)<| T_nd 1 [] [(49,vp (some ((ad f).add 3)))] ?_
      obtain⟨cv,an,cp,q98,h⟩:=h
      refine T_l1 50 29 q98 [49]<| T_nd 2 [50] [(51,vi an),(52,vp (some ((ad g).add 3)))] ?_
      obtain⟨cs,ax,cm,q99,h⟩:=h
      refine T_l1 53 29 q99 [52]<| T_nd 4 [48,51,53] [(57,.bool ((an:Int) !=(ax:Int)))] ?_
      by_cases c100:(an:Int)=(ax:Int)
      ·rw[if_pos c100]at h
       refine N_bd 57 (bne_eq_false_iff_eq.mpr c100)<| T_nd 1 [] [(58,vp (some ((ad f).add 4)))] ?_
       obtain⟨cn,am,cx,q102,h⟩:=h
       refine T_l1 59 59 q102 [58]<| T_nd 2 [59] [(60,vi am),(61,vp (some ((ad g).add 4)))] ?_
       obtain⟨cu,av,co,q103,h⟩:=h
       refine T_l1 62 59 q103 [61]<| T_ed 3 [57,60,62] [(65,.bool ((am:Int) !=(av:Int)))] ?_
       by_cases c104:(am:Int)=(av:Int)
       ·rw[if_pos c104]at h
        refine aM 65 (bne_eq_false_iff_eq.mpr c104)<| T_kt<| T_sz<| ar 9<| T_ed 1 [65] [(8,vi 0)]<| T_bz 2 ?_
        obtain⟨bw,m74,i106,i107⟩:=h
        refine dE (x:=K37) (σ:=Int) (λs_=> [(0,vs (some e) aN aC),(1,vs (some d) bN bC),(5,vi i),(6,vp (pa f)),(7,vp (pa g)),(8,vi s_)]) (λs_ H=>bw s_ H) (λs_ H=>m74 s_ H) (0:Int) (by kernel_rfl) i106 sk ?_
        rintro v H12 i108
        have h:=i107 v H12 i108
        refine T_su [(0,vs (some e) aN aC),(1,vs (some d) bN bC),(5,vi i),(6,vp (pa f)),(7,vp (pa g)),(8,vi v)]<| T_sz<| ar 10<| T_nd 2 [] [(66,vi v),(67,vp (some ((ad f).add 3)))] ?_
        obtain⟨cr,aw,cq,q109,h⟩:=h
        refine T_l1 68 29 q109 [67]<| T_ed 2 [66,68] [(70,.bool (decide (v< (aw:Int))))] ?_
        by_cases c110:v< (aw:Int)
        ·rw[if_pos c110]at h
         refine aL 70 (zX c110)<| T_kt<| T_sz<| T_bz 3<| T_sz<| ky 12<| T_q1 73 (vp (some ((ad f).add 3))) [70] ?_
         obtain⟨b4,bb,bm,q112,h⟩:=h
         refine jO (some 74) 29 q112 [73] [(74,vs b4 bb bm)]<| T_q1 75 (vi v) [] ?_
         obtain⟨a6,rfl,q113,h⟩:=h
         refine Q_op (some 76) (aZ 29 (vs (some a6) bb bm) (vi v)) (vp (some (a6.add (Int.toNat v*1)))) (λ_=>by kernel_rfl) (λw _=>bL (P:=Tryz.prog) (t:=29) (elem:=40) (sz:=1) (a:=a6) (len:=bb) (cap:=bm) (k:=.i64) (i:=v) Tryz.underlying29 (λ_=>by kernel_rfl) q113.1 q113.2 w) [(0,vs (some e) aN aC),(1,vs (some d) bN bC),(5,vi i),(6,vp (pa f)),(7,vp (pa g)),(8,vi v),(76,vp (some (a6.add (Int.toNat v*1))))] pk ?_
         obtain⟨ak,q114,h⟩:=h
         refine T_ql (some 77) 40 q114 [(0,vs (some e) aN aC),(1,vs (some d) bN bC),(5,vi i),(6,vp (pa f)),(7,vp (pa g)),(8,vi v),(77,vu ak)]<| T_q1 78 (vp (some ((ad g).add 3))) [] ?_
         obtain⟨b5,bc,bp,q115,h⟩:=h
         refine jO (some 79) 29 q115 [78] [(79,vs b5 bc bp)]<| T_q1 80 (vi v) [] ?_
         obtain⟨be,rfl,q116,h⟩:=h
         refine Q_op (some 81) (aZ 29 (vs (some be) bc bp) (vi v)) (vp (some (be.add (Int.toNat v*1)))) (λ_=>by kernel_rfl) (λw _=>bL (P:=Tryz.prog) (t:=29) (elem:=40) (sz:=1) (a:=be) (len:=bc) (cap:=bp) (k:=.i64) (i:=v) Tryz.underlying29 (λ_=>by kernel_rfl) q116.1 q116.2 w) [(0,vs (some e) aN aC),(1,vs (some d) bN bC),(5,vi i),(6,vp (pa f)),(7,vp (pa g)),(8,vi v),(77,vu ak),(81,vp (some (be.add (Int.toNat v*1))))] pk ?_
         obtain⟨a4,q117,h⟩:=h
         refine T_ql (some 82) 40 q117 [(0,vs (some e) aN aC),(1,vs (some d) bN bC),(5,vi i),(6,vp (pa f)),(7,vp (pa g)),(8,vi v),(77,vu ak),(82,vu a4)]<| T_q1 83 (.bool (ak !=a4)) [77,82]<| jN [(0,vs (some e) aN aC),(1,vs (some d) bN bC),(5,vi i),(6,vp (pa f)),(7,vp (pa g)),(8,vi v),(83,.bool (ak !=a4))] sk<| T_qe ?_
         by_cases c118:ak=a4
         ·rw[if_pos c118]at h
          exact aM 83 (bne_eq_false_iff_eq.mpr c118)<| T_k<| aA<| aE<| T_rz 11<| T_ne 3 [(0,vs (some e) aN aC),(1,vs (some d) bN bC),(5,vi i),(6,vp (pa f)),(7,vp (pa g)),(8,vi (zY (v+1)))]<| bK ((zY (v+1)):Int) sk h
         rw[if_neg c118]at h
         exact aL 83 (bne_iff_ne.mpr c118)<| ar 13<| T_nr 1 [4] [.bool false] hQ h
        rw[if_neg c110]at h
        refine aM 70 (zQ c110)<| zk 2<| aD<| aD<| aQ<| aE<| ar 14<| T_ed 1 [8,70] [(9,vi 0)]<| T_bz 4 ?_
        obtain⟨bw,m74,i120,i121⟩:=h
        refine dE (x:=K56) (σ:=Int) (λs_=> [(0,vs (some e) aN aC),(1,vs (some d) bN bC),(5,vi i),(6,vp (pa f)),(7,vp (pa g)),(9,vi s_)]) (λs_ H=>bw s_ H) (λs_ H=>m74 s_ H) (0:Int) (by kernel_rfl) i120 sk ?_
        rintro u H13 i122
        have h:=i121 u H13 i122
        refine T_su [(0,vs (some e) aN aC),(1,vs (some d) bN bC),(5,vi i),(6,vp (pa f)),(7,vp (pa g)),(9,vi u)]<| T_sz<| ar 15<| T_nd 2 [] [(84,vi u),(85,vp (some ((ad f).add 4)))] ?_
        obtain⟨ct,au,cw,q123,h⟩:=h
        refine T_l1 86 59 q123 [85]<| T_ed 2 [84,86] [(88,.bool (decide (u< (au:Int))))] ?_
        by_cases c124:u< (au:Int)
        ·rw[if_pos c124]at h
         refine aL 88 (zX c124)<| T_kt<| T_sz<| T_bz 5<| T_sz<| ky 17<| T_q1 91 (vp (some ((ad f).add 4))) [88] ?_
         obtain⟨b8,a8,bf,q126,h⟩:=h
         refine jO (some 92) 59 q126 [91] [(92,vs b8 a8 bf)]<| T_q1 93 (vi u) [] ?_
         obtain⟨a9,rfl,q127,h⟩:=h
         refine Q_op (some 94) (aZ 59 (vs (some a9) a8 bf) (vi u)) (vp (some (a9.add (Int.toNat u*1)))) (λ_=>by kernel_rfl) (λw _=>bL (P:=Tryz.prog) (t:=59) (elem:=3) (sz:=1) (a:=a9) (len:=a8) (cap:=bf) (k:=.i64) (i:=u) Tryz.underlying59 (λ_=>by kernel_rfl) q127.1 q127.2 w) [(0,vs (some e) aN aC),(1,vs (some d) bN bC),(5,vi i),(6,vp (pa f)),(7,vp (pa g)),(9,vi u),(94,vp (some (a9.add (Int.toNat u*1))))] pk ?_
         obtain⟨al,q128,h⟩:=h
         refine T_ql (some 95) 3 q128 [(0,vs (some e) aN aC),(1,vs (some d) bN bC),(5,vi i),(6,vp (pa f)),(7,vp (pa g)),(9,vi u),(95,vi al)]<| T_q1 96 (vp (some ((ad g).add 4))) [] ?_
         obtain⟨b9,a7,bg,q129,h⟩:=h
         refine jO (some 97) 59 q129 [96] [(97,vs b9 a7 bg)]<| T_q1 98 (vi u) [] ?_
         obtain⟨ba,rfl,q130,h⟩:=h
         refine Q_op (some 99) (aZ 59 (vs (some ba) a7 bg) (vi u)) (vp (some (ba.add (Int.toNat u*1)))) (λ_=>by kernel_rfl) (λw _=>bL (P:=Tryz.prog) (t:=59) (elem:=3) (sz:=1) (a:=ba) (len:=a7) (cap:=bg) (k:=.i64) (i:=u) Tryz.underlying59 (λ_=>by kernel_rfl) q130.1 q130.2 w) [(0,vs (some e) aN aC),(1,vs (some d) bN bC),(5,vi i),(6,vp (pa f)),(7,vp (pa g)),(9,vi u),(95,vi al),(99,vp (some (ba.add (Int.toNat u*1))))] pk ?_
         obtain⟨a3,q131,h⟩:=h
         refine T_ql (some 100) 3 q131 [(0,vs (some e) aN aC),(1,vs (some d) bN bC),(5,vi i),(6,vp (pa f)),(7,vp (pa g)),(9,vi u),(95,vi al),(100,vi a3)]<| T_q1 101 (.bool (al !=a3)) [95,100]<| jN [(0,vs (some e) aN aC),(1,vs (some d) bN bC),(5,vi i),(6,vp (pa f)),(7,vp (pa g)),(9,vi u),(101,.bool (al !=a3))] sk<| T_qe ?_
         by_cases c132:al=a3
         ·rw[if_pos c132]at h
          exact aM 101 (bne_eq_false_iff_eq.mpr c132)<| T_k<| aA<| aE<| T_rz 16<| T_ne 3 [(0,vs (some e) aN aC),(1,vs (some d) bN bC),(5,vi i),(6,vp (pa f)),(7,vp (pa g)),(9,vi (zY (u+1)))]<| bK ((zY (u+1)):Int) sk h
         rw[if_neg c132]at h
         exact aL 101 (bne_iff_ne.mpr c132)<| ar 18<| T_nr 1 [4] [.bool false] hQ h
        rw[if_neg c124]at h
        exact aM 88 (zQ c124)<| zk 4<| aD<| aD<| aQ<| aA<| aE<| T_rz 5<| T_ed 3 [5,6,7,9,88] [(5,vi (zY (i+1)))]<| bK ((zY (i+1)):Int) sk h
       rw[if_neg c104]at h
       exact aL 65 (bne_iff_ne.mpr c104)<| ar 8<| T_nr 1 [4] [.bool false] hQ h
      rw[if_neg c100]at h
      exact N_bd 57 (bne_iff_ne.mpr c100)<| T_ed 8 [57] [(65,.bool true)]<| T_tz 65<| ar 8<| T_nr 1 [4] [.bool false] hQ h
     rw[if_neg c96]at h
     exact N_bd 48 (bne_iff_ne.mpr c96)<| T_ed 17 [48] [(65,.bool true)]<| T_tz 65<| ar 8<| T_nr 1 [4] [.bool false] hQ h
    rw[if_neg c92]at h
    exact N_bd 41 (bne_iff_ne.mpr c92)<| T_ed 24 [41] [(65,.bool true)]<| T_tz 65<| ar 8<| T_nr 1 [4] [.bool false] hQ h
   rw[if_neg c88]at h
   exact N_bd 34 (bne_iff_ne.mpr c88)<| T_ed 31 [34] [(65,.bool true)]<| T_tz 65<| ar 8<| T_nr 1 [4] [.bool false] hQ h
  rw[if_neg c6]at h
  exact aM 18 (zQ c6)<| zk 0<| aD<| aD<| aQ<| aE<| ar 19<| T_nr 1 [4] [.bool true] hQ h
 rw[if_neg c1]at h
 exact aL 14 (bne_iff_ne.mpr c1)<| ar 2<| T_nr 1 [4] [.bool false] hQ h
end cF

