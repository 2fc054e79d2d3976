/- Printed: what each function asks, and that it is sound. -/
import Derived.Test.YtdoghjgbhefphaaGreatFnsC
set_option linter.unusedSimpArgs false
set_option linter.unusedVariables false
set_option maxRecDepth 100000
set_option maxHeartbeats 1000000
noncomputable section
namespace Go.Proofs.YtdoghjgbhefphaaGreat
open Go
/-! moraine/morainelaw11.reached -/
namespace morainelaw11_reached
def K0:=Func.code Tryz.f31
def K2:=cb K0
def K4:=cb K2
def K5:=ca K4
def K6:=cb K4
def K8:=cb K5
def K9:=ca K8
def K10:=ca K9
def K21:=cb K6
def K22:=ca K21
def K23:=cb K21
def K25:=cb K22
def K26:=ca K25
def K27:=ca K26
def K29:=cb K27
def K34:=ca K29
def K36:=ca K34
def K37:=ca K36
def K38:=cb K36
def K40:=cb K38
def K41:=ca K40
def K42:=ca K41
def K44:=cb K42
def K49:=ca K44
def K51:=ca K49
def K52:=ca K51
def K59:=cb K23
def K60:=ca K59
def K63:=cb K60
def K64:=ca K63
def K65:=ca K64
def K67:=cb K65
def K72:=ca K67
def K74:=ca K72
def K76:=cb K74
def K78:=cb K76
def K80:=cb K78
def K81:=ca K80
def K82:=ca K81
end morainelaw11_reached
def morainelaw11_reached.pt(hv ak:Option Addr)(u ac:Nat)(g:Int)(H:Array Obj)(R:Value->Array Obj->Prop):Prop:=
 ∀(b:Nat) (H1:Array Obj),b=H.size->H1=H.push (.map #[] 0)->
 ∀(f:Nat) (H2:Array Obj),f=H1.size->H2=H1.push (.cells #[.pointer hv,.slice none 0 0,.map (some b)] 180)->
 ∃(cg:Int->Array Obj->Prop) (m11:Int->Array Obj->Nat),cg 0 H2/\ ∀(i:Int) (H3:Array Obj),cg i H3->
 if i< (u:Int)then(
 ∃an:Addr,ak=some an/\
 ((0:Int)<=i/\i< (u:Int))/\
 ∃x:Int,hat H3 (an.add (Int.toNat i*1))=some (.int .u64 x)/\
 morainelaw11_walk_come.C (some (ad f)) x g H3 (λ_ H4=>
 (cg (IntKind.wrap .i64 (i+1)) H4/\m11 (IntKind.wrap .i64 (i+1)) H4<m11 i H3)))
 else
 ∃d:Addr,hv=some d/\
 ∃ce:Option Addr,hat H3 d=some (.pointer ce)/\
 ∃cc:Addr,ce=some cc/\
 ∃b6:Option Addr,hat H3 cc=some (.pointer b6)/\
 ∃b7:Addr,b6=some b7/\
 ∃b0:Option Addr,hat H3 b7=some (.pointer b0)/\
 seg_Mem_Taken.C b0 none 0 0 H3 (λc2 H5=> ∃(xB:Option Addr) (xN xC:Nat),c2=.slice xB xN xC/\
 ∃(bn:Int->Array Obj->Prop) (m28:Int->Array Obj->Nat),bn 0 H5/\ ∀(j:Int) (H6:Array Obj),bn j H6->
 if j< (xN:Int)then(
 ∃cu:Option Addr,hat H6 d=some (.pointer cu)/\
 ∃a8:Addr,cu=some a8/\
 ∃cw:Option Addr,hat H6 a8=some (.pointer cw)/\
 ∃a7:Addr,cw=some a7/\
 ∃ba:Option Addr,hat H6 a7=some (.pointer ba)/\
 ∃l:Addr,xB=some l/\
 ((0:Int)<=j/\j< (xN:Int))/\
 ∃bh:Int,hat H6 (l.add (Int.toNat j*1))=some (.int .i64 bh)/\
 (
 seg_Mem_Seg.C ba bh H6 (λc1 H7=> ∃(ao am a9 ag af ah ae:Int) (rb:Bool),c1=.tuple #[.agg #[.int .i64 ao,.int .i64 am,.int .i64 a9,.int .i64 ag,.int .i64 af,.int .i64 ah,.int .i64 ae],.bool rb]/\
 ∀(p:Nat) (H8:Array Obj),p=H7.size->H8=H7.push (.cells #[.int .i64 0,.int .i64 0,.int .i64 0,.int .i64 0,.int .i64 0,.int .i64 0,.int .i64 0] 82)->
 (CanPuts H8 (ad p) 0 7)/\ ∀H9,H9=hputs H8 (ad p) [.int .i64 ao,.int .i64 am,.int .i64 a9,.int .i64 ag,.int .i64 af,.int .i64 ah,.int .i64 ae] 0->
 ∃(b1:Int->Array Obj->Prop) (m43:Int->Array Obj->Nat),b1 0 H9/\ ∀(k:Int) (H10:Array Obj),b1 k H10->
 ∃bq:Int,hat H10 ((ad p).add 2)=some (.int .i64 bq)/\
 if k<bq then(
 ∃bb:Int,hat H10 (ad p)=some (.int .i64 bb)/\
 if bb>g then(
 ∃bg:Int,hat H10 ((ad p).add 1)=some (.int .i64 bg)/\
 if bg=3 then(
 (bn (IntKind.wrap .i64 (j+1)) H10/\m28 (IntKind.wrap .i64 (j+1)) H10<m28 j H6))
 else
 ∃ch:Option Addr,hat H10 d=some (.pointer ch)/\
 ∃a3:Addr,ch=some a3/\
 ∃ci:Option Addr,hat H10 a3=some (.pointer ci)/\
 ∃az:Addr,ci=some az/\
 ∃a1:Option Addr,hat H10 az=some (.pointer a1)/\
 ((0:Int)<=j/\j< (xN:Int))/\
 ∃ax:Int,hat H10 (l.add (Int.toNat j*1))=some (.int .i64 ax)/\
 seg_Mem_Read.C a1 (IntKind.wrap .i64 ((IntKind.wrap .i64 (64*ax))+k)) H10 (λc5 b8=> ∃ra a4:Int,c5=.tuple #[.int .u64 ra,.int .i64 a4]/\
 ∃au:Int,hat b8 ((ad p).add 1)=some (.int .i64 au)/\
 if((au !=1) || ((iand .i64 k 1)==1))=true then(
 morainelaw11_walk_come.C (some (ad f)) ra g b8 (λ_ cx=>
 (b1 (IntKind.wrap .i64 (k+1)) cx/\m43 (IntKind.wrap .i64 (k+1)) cx<m43 k H10)))
 else
 (b1 (IntKind.wrap .i64 (k+1)) b8/\m43 (IntKind.wrap .i64 (k+1)) b8<m43 k H10)))
 else
 (bn (IntKind.wrap .i64 (j+1)) H10/\m28 (IntKind.wrap .i64 (j+1)) H10<m28 j H6))
 else
 (bn (IntKind.wrap .i64 (j+1)) H10/\m28 (IntKind.wrap .i64 (j+1)) H10<m28 j H6)))/\(
 ∀(o:Nat) (H13:Array Obj),o=H6.size->H13=H6.push (.cells #[.int .i64 0,.int .i64 0,.int .i64 0,.int .i64 0,.int .i64 0,.int .i64 0,.int .i64 0] 82)->RowAt H13 d 0 [.pointer (some a8)]/\RowAt H13 a8 0 [.pointer (some a7)]/\RowAt H13 a7 0 [.pointer ba]/\RowAt H13 (l.add (Int.toNat j*1)) 0 [.int .i64 bh]/\
 seg_Mem_Seg.C ba bh H13 (λc3 cp=> ∃(al aj ap y aa z ab:Int) (a6:Bool),c3=.tuple #[.agg #[.int .i64 al,.int .i64 aj,.int .i64 ap,.int .i64 y,.int .i64 aa,.int .i64 z,.int .i64 ab],.bool a6]/\
 (CanPuts cp (ad o) 0 7)/\ ∀cn,cn=hputs cp (ad o) [.int .i64 al,.int .i64 aj,.int .i64 ap,.int .i64 y,.int .i64 aa,.int .i64 z,.int .i64 ab] 0->
 ∃(b3:Int->Array Obj->Prop) (m58:Int->Array Obj->Nat),b3 0 cn/\ ∀(n:Int) (H16:Array Obj),b3 n H16->
 ∃bd:Int,hat H16 ((ad o).add 2)=some (.int .i64 bd)/\
 if n<bd then(
 ∃be:Int,hat H16 (ad o)=some (.int .i64 be)/\
 if be>g then(
 ∃bc:Int,hat H16 ((ad o).add 1)=some (.int .i64 bc)/\
 if bc=3 then(
 (bn (IntKind.wrap .i64 (j+1)) H16/\m28 (IntKind.wrap .i64 (j+1)) H16<m28 j H6))
 else
 ∃ck:Option Addr,hat H16 d=some (.pointer ck)/\
 ∃aw:Addr,ck=some aw/\
 ∃cl:Option Addr,hat H16 aw=some (.pointer cl)/\
 ∃a2:Addr,cl=some a2/\
 ∃ay:Option Addr,hat H16 a2=some (.pointer ay)/\
 ((0:Int)<=j/\j< (xN:Int))/\
 ∃a0:Int,hat H16 (l.add (Int.toNat j*1))=some (.int .i64 a0)/\
 seg_Mem_Read.C ay (IntKind.wrap .i64 ((IntKind.wrap .i64 (64*a0))+n)) H16 (λc0 cd=> ∃ai a5:Int,c0=.tuple #[.int .u64 ai,.int .i64 a5]/\
 ∃av:Int,hat cd ((ad o).add 1)=some (.int .i64 av)/\
 if((av !=1) || ((iand .i64 n 1)==1))=true then(
 morainelaw11_walk_come.C (some (ad f)) ai g cd (λ_ ct=>
 (b3 (IntKind.wrap .i64 (n+1)) ct/\m58 (IntKind.wrap .i64 (n+1)) ct<m58 n H16)))
 else
 (b3 (IntKind.wrap .i64 (n+1)) cd/\m58 (IntKind.wrap .i64 (n+1)) cd<m58 n H16)))
 else
 (bn (IntKind.wrap .i64 (j+1)) H16/\m28 (IntKind.wrap .i64 (j+1)) H16<m28 j H6))
 else
 (bn (IntKind.wrap .i64 (j+1)) H16/\m28 (IntKind.wrap .i64 (j+1)) H16<m28 j H6))))
 else
 ∃(bz:Int->Int->Array Obj->Prop) (m66:Int->Int->Array Obj->Nat),bz 0 0 H6/\ ∀(q:Int) (i_3:Int) (H19:Array Obj),bz q i_3 H19->
 ∃(b5:Option Addr) (bf b4:Nat),hat H19 ((ad f).add 1)=some (.slice b5 bf b4)/\
 if i_3< (bf:Int)then(
 ∃(br:Option Addr) (bk bo:Nat),hat H19 ((ad f).add 1)=some (.slice br bk bo)/\
 ∃bl:Addr,br=some bl/\
 ((0:Int)<=i_3/\i_3< (bk:Int))/\
 ∃m:Int,hat H19 (bl.add (Int.toNat i_3*1))=some (.int .u64 m)/\
 obj_Heap_Size.C (some d) m H19 (λc6 c4=> ∃r:Int,c6=.int .i64 r/\
 ∃(b2:Int->Array Obj->Prop) (m83:Int->Array Obj->Nat),b2 0 c4/\ ∀(s:Int) (H21:Array Obj),b2 s H21->
 obj_Heap_Size.C (some d) m H21 (λcy cq=> ∃bm:Int,cy=.int .i64 bm/\
 if s<bm then(
 obj_Heap_Type.C (some d) m cq (λcs co=> ∃bj:Int,cs=.int .i64 bj/\
 if bj=2 then(
 (bz (IntKind.wrap .i64 (q+r)) (IntKind.wrap .i64 (i_3+1)) co/\m66 (IntKind.wrap .i64 (q+r)) (IntKind.wrap .i64 (i_3+1)) co<m66 q i_3 H19))
 else
 obj_Heap_Type.C (some d) m co (λcz bx=> ∃bi:Int,cz=.int .i64 bi/\
 if bi=3 then(
 (bz (IntKind.wrap .i64 (q+r)) (IntKind.wrap .i64 (i_3+1)) bx/\m66 (IntKind.wrap .i64 (q+r)) (IntKind.wrap .i64 (i_3+1)) bx<m66 q i_3 H19))
 else
 ∃bu:Option Addr,hat bx d=some (.pointer bu)/\
 ∃bt:Addr,bu=some bt/\
 ∃bw:Option Addr,hat bx bt=some (.pointer bw)/\
 ∃bs:Addr,bw=some bs/\
 ∃bp:Option Addr,hat bx bs=some (.pointer bp)/\
 seg_Mem_Read.C bp (IntKind.wrap .i64 ((IntKind.wrap .i64 (ishr .u64 m 3))+s)) bx (λcr cm=> ∃aq cj:Int,cr=.tuple #[.int .u64 aq,.int .i64 cj]/\
 if(((iand .u64 m 7) !=2) || (s==1))=true then(
 morainelaw11_walk_come.C (some (ad f)) aq g cm (λ_ cv=>
 (b2 (IntKind.wrap .i64 (s+1)) cv/\m83 (IntKind.wrap .i64 (s+1)) cv<m83 s H21)))
 else
 (b2 (IntKind.wrap .i64 (s+1)) cm/\m83 (IntKind.wrap .i64 (s+1)) cm<m83 s H21)))))
 else
 (bz (IntKind.wrap .i64 (q+r)) (IntKind.wrap .i64 (i_3+1)) cq/\m66 (IntKind.wrap .i64 (q+r)) (IntKind.wrap .i64 (i_3+1)) cq<m66 q i_3 H19))))
 else
 R (.int .i64 q) H19)
namespace morainelaw11_reached
theorem link{hv ak:Option Addr}{u ac:Nat}{g:Int}{H:Array Obj}{R:Value->Array Obj->Prop}(h:pt hv ak u ac g H R):C hv ak u ac g H R:=by
 refine T_en K0 195 Tryz.func31 ?_
 intro w0 Q hQ
 unfold pt at h
 refine T_su [(0,vp hv),(1,vs ak u ac),(2,vi g)]<| T_srz 0<| T_ed 1 [] []<| T_srz 1<| T_nd 1 [] [(22,vp hv)]<| T_nw (some 23) (λb=> .map (some b)) (.map #[] 0) ?_
 intro b H1 e1 e2
 replace h:=h b H1 e1 e2
 refine T_pd [] [(23,.map (some b))]<| T_nd 1 [22,23] [(24,.agg #[vp hv,vs none 0 0,.map (some b)])]<| T_nw (some 25) (λb=>vp (pa b)) (.cells #[vp hv,vs none 0 0,.map (some b)] 180) ?_
 intro f H2 e3 e4
 replace h:=h f H2 e3 e4
 refine T_pd [24] [(25,vp (pa f))]<| T_ed 1 [25] [(7,vp (pa f))]<| T_sz<| T_srz 2<| T_ed 1 [] [(8,vi 0)]<| T_bz 0 ?_
 obtain⟨cg,m11,i5,i6⟩:=h
 refine S_loop (x:=K10) (σ:=Int) (λs_=> [(0,vp hv),(1,vs ak u ac),(2,vi g),(7,vp (pa f)),(8,vi s_)]) (λs_ H=>cg s_ H) (λs_ H=>m11 s_ H) (0:Int) (by kernel_rfl) i5 sk ?_
 rintro i H3 i7
 have h:=i6 i H3 i7
 refine T_su [(0,vp hv),(1,vs ak u ac),(2,vi g),(7,vp (pa f)),(8,vi i)]<| T_sz<| T_srz 3<| T_ed 4 [] [(29,.bool (decide (i< (u:Int))))] ?_
 by_cases c8:i< (u:Int)
 ·rw[if_pos c8]at h
  refine T_cTz 29 (decide_eq_true c8)<| T_kt<| T_sz<| T_bz 1<| T_rz 5<| T_nd 3 [29] [(32,vp (pa f)),(33,vs ak u ac),(34,vi i)] ?_
  obtain⟨an,rfl,h⟩:=h
  obtain⟨q10,h⟩:=h
  refine T_xd (some 35) 34 36 1 an u ac .i64 i Tryz.underlying34 q10.1 q10.2 [1,33,34] [(1,vs (some an) u ac),(35,vp (some (an.add (Int.toNat i*1))))] ?_
  obtain⟨x,q11,h⟩:=h
  refine T_l1 36 36 q11 [35]<| T_nd 1 [] [(37,vi g)] ?_
  refine T_c (some 38) h ?_;clear h
  intro v H4 h
  refine T_pd [32,36,37] [] ?_
  refine N_end (by kernel_rfl) ?_
  refine S_blockEnd ?_
  refine S_then ?_
  refine T_rz 4<| T_ed 3 [8] [(8,vi (IntKind.wrap .i64 (i+1)))] ?_
  exact S_round ((IntKind.wrap .i64 (i+1)):Int) sk h
 rw[if_neg c8]at h
 refine T_cFz 29 (decide_eq_false c8) ?_
 refine S_exit 0 (by kernel_rfl) ?_
 refine S_exitThen ?_
 refine S_exitThen ?_
 refine S_exitHere ?_
 refine S_then ?_
 refine T_srz 6<| T_nd 1 [1,8,29] [(39,vp hv)] ?_
 obtain⟨d,rfl,h⟩:=h
 refine T_nd 2 [0,39] [(0,vp (some d)),(41,vp (some d))] ?_
 obtain⟨ce,q12,h⟩:=h
 refine T_l1 42 54 q12 [41] ?_
 obtain⟨cc,rfl,h⟩:=h
 refine T_nd 2 [42] [(44,vp (some cc))] ?_
 obtain⟨b6,q13,h⟩:=h
 refine T_l1 45 58 q13 [44] ?_
 obtain⟨b7,rfl,h⟩:=h
 refine T_nd 2 [45] [(47,vp (some b7))] ?_
 obtain⟨b0,q14,h⟩:=h
 refine T_l1 48 61 q14 [47] ?_
 refine T_c (some 49) h ?_;clear h
 rintro c2 H5 ⟨xB,xN,xC,rfl,h⟩
 refine T_pd [48] [(49,vs xB xN xC)]<| T_ed 1 [49] [(9,vs xB xN xC)]<| T_sz<| T_srz 7<| T_ed 1 [] [(10,vi 0)]<| T_bz 2 ?_
 obtain⟨bn,m28,i15,i16⟩:=h
 refine S_loop (x:=K27) (σ:=Int) (λs_=> [(0,vp (some d)),(2,vi g),(7,vp (pa f)),(9,vs xB xN xC),(10,vi s_)]) (λs_ H=>bn s_ H) (λs_ H=>m28 s_ H) (0:Int) (by kernel_rfl) i15 sk ?_
 rintro j H6 i17
 have h:=i16 j H6 i17
 refine T_su [(0,vp (some d)),(2,vi g),(7,vp (pa f)),(9,vs xB xN xC),(10,vi j)]<| T_sz<| T_srz 8<| T_ed 4 [] [(53,.bool (decide (j< (xN:Int))))] ?_
 by_cases c18:j< (xN:Int)
 ·rw[if_pos c18]at h
  refine T_cTz 53 (decide_eq_true c18)<| T_kt<| T_sz<| T_bz 3<| T_sz ?_
  obtain⟨cu,q20,h⟩:=h
  obtain⟨a8,rfl,h⟩:=h
  obtain⟨cw,q21,h⟩:=h
  obtain⟨a7,rfl,h⟩:=h
  obtain⟨ba,q22,h⟩:=h
  obtain⟨l,rfl,h⟩:=h
  obtain⟨q23,h⟩:=h
  obtain⟨bh,q24,h⟩:=h
  refine S_regionG 10 (Code.ops K37) [(14,d,[vp (some a8)]),(14,a8,[vp (some a7)]),(14,a7,[vp ba]),(14,(l.add (Int.toNat j*1)),[vi bh])] 21 (bv 21 0) (by kernel_rfl) (by kernel_rfl) (by kernel_rfl) (by kernel_rfl) (by kernel_rfl) (show FactsAt _ _ _ from⟨⟨q20,trivial⟩,⟨q21,trivial⟩,⟨q22,trivial⟩,⟨q24,trivial⟩,trivial⟩) ?_
  refine T_gp 0 (some 57) (vp (some d)) (bv 21 1) [(0,vp (some d)),(2,vi g),(7,vp (pa f)),(9,vs (some l) xN xC),(10,vi j),(57,vp (some d))]<| T_gp1 1 58 (vp (some d)) (bv 21 3) [57]<| T_gp1 2 59 (vp (some d)) (bv 21 7) [58]<| T_g1 3 60 (vp (some a8)) (bv 21 15) [59] (loadN 54 (vp (some d))) (held_one 14 (λ_=>by kernel_rfl) (List.Mem.head _) (.inl (by kernel_rfl)))<| T_gp1 4 61 (vp (some a8)) (bv 21 31) [60]<| T_gp1 5 62 (vp (some a8)) (bv 21 63) [61]<| T_g1 6 63 (vp (some a7)) (bv 21 127) [62] (loadN 58 (vp (some a8))) (held_one 14 (λ_=>by kernel_rfl) (List.Mem.tail _ (List.Mem.head _)) (.inl (by kernel_rfl)))<| T_gp1 7 64 (vp (some a7)) (bv 21 255) [63]<| T_gp1 8 65 (vp (some a7)) (bv 21 511) [64] ?_
  refine T_g1 9 66 (vp ba) (bv 21 1023) [65] (loadN 61 (vp (some a7))) (held_one 14 (λ_=>by kernel_rfl) (List.Mem.tail _ (List.Mem.tail _ (List.Mem.head _))) (.inl (by kernel_rfl)))<| T_gp1 10 67 (vs (some l) xN xC) (bv 21 2047) []<| T_gp1 11 68 (vi j) (bv 21 4095) []<| T_g1 12 69 (vp (some (l.add (Int.toNat j*1)))) (bv 21 8191) [67,68] (indexAtN 52 (vs (some l) xN xC) (vi j)) (λ_ w _ _ _=>indexAt_run (P:=Tryz.prog) (t:=52) (elem:=3) (sz:=1) (a:=l) (len:=xN) (cap:=xC) (k:=.i64) (i:=j) Tryz.underlying52 (λ_=>by kernel_rfl) q23.1 q23.2 w)<| T_g1 13 70 (vi bh) (bv 21 16383) [69] (loadN 3 (vp (some (l.add (Int.toNat j*1))))) (held_one 14 (λ_=>by kernel_rfl) (List.Mem.tail _ (List.Mem.tail _ (List.Mem.tail _ (List.Mem.head _)))) (.inl (by kernel_rfl))) ?_
  refine G_fork 14 18 (by kernel_rfl) ?_ ?_
  ·replace h:=h.1
   refine O_call 14 (some 71) (bv 21 32767) 24 #[vp ba,vi bh] (by kernel_rfl) (λ_=>by kernel_rfl) h (by kernel_rfl) ?_;clear h
   rintro c1 H7 ⟨ao,am,a9,ag,af,ah,ae,rb,rfl,h⟩
   refine⟨[(0,vp (some d)),(2,vi g),(7,vp (pa f)),(9,vs (some l) xN xC),(10,vi j),(71,.tuple #[.agg #[vi ao,vi am,vi a9,vi ag,vi af,vi ah,vi ae],.bool rb])],pk,(show FactsAt _ _ _ from⟨trivial,trivial,trivial,trivial,trivial⟩),?_⟩
   refine T_g 15 (some 56) (.tuple #[.agg #[vi ao,vi am,vi a9,vi ag,vi af,vi ah,vi ae],.bool rb]) (bv 21 65535) [(0,vp (some d)),(2,vi g),(7,vp (pa f)),(9,vs (some l) xN xC),(10,vi j),(56,.tuple #[.agg #[vi ao,vi am,vi a9,vi ag,vi af,vi ah,vi ae],.bool rb])] (pure (.value (.tuple #[.agg #[vi ao,vi am,vi a9,vi ag,vi af,vi ah,vi ae],.bool rb])):Sem Next) (λ_ _ _ _ _=>rfl)<| T_g1 16 72 (.agg #[vi ao,vi am,vi a9,vi ag,vi af,vi ah,vi ae]) (bv 21 131071) [] (pure (.value (.agg #[vi ao,vi am,vi a9,vi ag,vi af,vi ah,vi ae])):Sem Next) (λ_ _ _ _ _=>rfl)<| T_g1 17 73 (.bool rb) (bv 21 262143) [56] (pure (.value (.bool rb)):Sem Next) (λ_ _ _ _ _=>rfl) ?_
   refine G_new 18 (some 11) (bv 21 524287) (λb=>vp (pa b)) (.cells #[vi 0,vi 0,vi 0,vi 0,vi 0,vi 0,vi 0] 82) (by kernel_rfl) (λ_=>by kernel_rfl) (by kernel_rfl) ?_
   intro p H8 e25 e26
   replace h:=h p H8 e25 e26
   refine⟨[(0,vp (some d)),(2,vi g),(7,vp (pa f)),(9,vs (some l) xN xC),(10,vi j),(11,vp (pa p)),(72,.agg #[vi ao,vi am,vi a9,vi ag,vi af,vi ah,vi ae]),(73,.bool rb)],pk,(show FactsAt _ _ _ from⟨trivial,trivial,trivial,trivial,trivial⟩),?_⟩
   obtain⟨q28,h⟩:=h
   refine G_onlyskip 19 none (bv 21 1048575) (storeN 82 (vp (pa p)) (.agg #[vi ao,vi am,vi a9,vi ag,vi af,vi ah,vi ae])) (λHz=>Hz=hputs H8 (ad p) [vi ao,vi am,vi a9,vi ag,vi af,vi ah,vi ae] 0) (by kernel_rfl) (λ_=>by kernel_rfl) (ss_store [vi ao,vi am,vi a9,vi ag,vi af,vi ah,vi ae] 7 (by kernel_rfl) (by kernel_rfl) (λ_=>by kernel_rfl) (by kernel_rfl) q28) (by kernel_rfl) ?_
   intro H9 e27
   replace h:=h H9 e27
   refine⟨[(0,vp (some d)),(2,vi g),(7,vp (pa f)),(9,vs (some l) xN xC),(10,vi j),(11,vp (pa p)),(73,.bool rb)],pk,(show FactsAt _ _ _ from⟨trivial,trivial,trivial,trivial,trivial⟩),?_⟩
   refine T_g 20 (some 12) (.bool rb) (bv 21 2097151) [(0,vp (some d)),(2,vi g),(7,vp (pa f)),(9,vs (some l) xN xC),(10,vi j),(11,vp (pa p))] (pure (.value (.bool rb)):Sem Next) (λ_ _ _ _ _=>rfl) ?_
   refine G_sub [(0,vp (some d)),(2,vi g),(7,vp (pa f)),(9,vs (some l) xN xC),(10,vi j),(11,vp (pa p))] sk ?_
   refine G_end (by kernel_rfl) ?_
   refine S_then ?_
   refine T_srz 11<| T_ne 1 [(0,vp (some d)),(2,vi g),(7,vp (pa f)),(9,vs (some l) xN xC),(10,vi j),(11,vp (pa p)),(13,vi 0)]<| T_bz 4 ?_
   obtain⟨b1,m43,i29,i30⟩:=h
   refine S_loop (x:=K42) (σ:=Int) (λs_=> [(0,vp (some d)),(2,vi g),(7,vp (pa f)),(9,vs (some l) xN xC),(10,vi j),(11,vp (pa p)),(13,vi s_)]) (λs_ H=>b1 s_ H) (λs_ H=>m43 s_ H) (0:Int) (by kernel_rfl) i29 sk ?_
   rintro k H10 i31
   have h:=i30 k H10 i31
   refine T_su [(0,vp (some d)),(2,vi g),(7,vp (pa f)),(9,vs (some l) xN xC),(10,vi j),(11,vp (pa p)),(13,vi k)]<| T_sz<| T_srz 12<| T_nd 2 [] [(74,vi k),(75,vp (some ((ad p).add 2)))] ?_
   obtain⟨bq,q32,h⟩:=h
   refine T_l1 76 3 q32 [75]<| T_nd 2 [74,76] [(78,.bool (decide (k<bq)))] ?_
   by_cases c33:k<bq
   ·rw[if_pos c33]at h
    refine N_bd 78 (decide_eq_true c33)<| T_nd 1 [] [(79,vp (pa p))] ?_
    obtain⟨bb,q35,h⟩:=h
    refine T_l1 80 3 q35 [79]<| T_nd 4 [78,80] [(84,.bool (decide (bb>g)))] ?_
    by_cases c36:bb>g
    ·rw[if_pos c36]at h
     refine N_bd 84 (decide_eq_true c36)<| T_nd 1 [] [(85,vp (some ((ad p).add 1)))] ?_
     obtain⟨bg,q38,h⟩:=h
     refine T_l1 86 3 q38 [85]<| T_ed 2 [84,86] [(88,.bool (bg !=3))] ?_
     by_cases c39:bg=3
     ·rw[if_pos c39]at h
      refine T_cFz 88 (bne_eq_false_iff_eq.mpr c39) ?_
      refine S_exit 4 (by kernel_rfl) ?_
      refine S_exitThen ?_
      refine S_exitThen ?_
      refine S_exitHere ?_
      refine S_blockEnd ?_
      refine S_then ?_
      refine T_rz 9<| T_ed 3 [10,11,13,88] [(10,vi (IntKind.wrap .i64 (j+1)))] ?_
      exact S_round ((IntKind.wrap .i64 (j+1)):Int) sk h
     rw[if_neg c39]at h
     refine T_cTz 88 (bne_iff_ne.mpr c39)<| T_kt<| T_sz<| T_bz 5<| T_sz ?_
     obtain⟨ch,q41,h⟩:=h
     obtain⟨a3,rfl,h⟩:=h
     obtain⟨ci,q42,h⟩:=h
     obtain⟨az,rfl,h⟩:=h
     obtain⟨a1,q43,h⟩:=h
     obtain⟨q44,h⟩:=h
     obtain⟨ax,q45,h⟩:=h
     refine S_regionG 14 (Code.ops K52) [(17,d,[vp (some a3)]),(17,a3,[vp (some az)]),(17,az,[vp a1]),(17,(l.add (Int.toNat j*1)),[vi ax])] 23 (bv 23 0) (by kernel_rfl) (by kernel_rfl) (by kernel_rfl) (by kernel_rfl) (by kernel_rfl) (show FactsAt _ _ _ from⟨⟨q41,trivial⟩,⟨q42,trivial⟩,⟨q43,trivial⟩,⟨q45,trivial⟩,trivial⟩) ?_
     refine T_gp 0 (some 92) (vp (some d)) (bv 23 1) [(0,vp (some d)),(2,vi g),(7,vp (pa f)),(9,vs (some l) xN xC),(10,vi j),(11,vp (pa p)),(13,vi k),(92,vp (some d))]<| T_gp1 1 93 (vp (some d)) (bv 23 3) [92]<| T_gp1 2 94 (vp (some d)) (bv 23 7) [93]<| T_g1 3 95 (vp (some a3)) (bv 23 15) [94] (loadN 54 (vp (some d))) (held_one 17 (λ_=>by kernel_rfl) (List.Mem.head _) (.inl (by kernel_rfl)))<| T_gp1 4 96 (vp (some a3)) (bv 23 31) [95]<| T_gp1 5 97 (vp (some a3)) (bv 23 63) [96]<| T_g1 6 98 (vp (some az)) (bv 23 127) [97] (loadN 58 (vp (some a3))) (held_one 17 (λ_=>by kernel_rfl) (List.Mem.tail _ (List.Mem.head _)) (.inl (by kernel_rfl)))<| T_gp1 7 99 (vp (some az)) (bv 23 255) [98]<| T_gp1 8 100 (vp (some az)) (bv 23 511) [99] ?_
     refine T_g1 9 101 (vp a1) (bv 23 1023) [100] (loadN 61 (vp (some az))) (held_one 17 (λ_=>by kernel_rfl) (List.Mem.tail _ (List.Mem.tail _ (List.Mem.head _))) (.inl (by kernel_rfl)))<| T_gp1 10 102 (vs (some l) xN xC) (bv 23 2047) []<| T_gp1 11 103 (vi j) (bv 23 4095) []<| T_g1 12 104 (vp (some (l.add (Int.toNat j*1)))) (bv 23 8191) [102,103] (indexAtN 52 (vs (some l) xN xC) (vi j)) (λ_ w _ _ _=>indexAt_run (P:=Tryz.prog) (t:=52) (elem:=3) (sz:=1) (a:=l) (len:=xN) (cap:=xC) (k:=.i64) (i:=j) Tryz.underlying52 (λ_=>by kernel_rfl) q44.1 q44.2 w)<| T_g1 13 105 (vi ax) (bv 23 16383) [104] (loadN 3 (vp (some (l.add (Int.toNat j*1))))) (held_one 17 (λ_=>by kernel_rfl) (List.Mem.tail _ (List.Mem.tail _ (List.Mem.tail _ (List.Mem.head _)))) (.inl (by kernel_rfl)))<| T_gp1 14 106 (vi (IntKind.wrap .i64 (64*ax))) (bv 23 32767) [105]<| T_gp1 15 107 (vi k) (bv 23 65535) []<| T_gp1 16 108 (vi (IntKind.wrap .i64 ((IntKind.wrap .i64 (64*ax))+k))) (bv 23 131071) [106,107] ?_
     refine G_call 17 (some 109) (bv 23 262143) 38 #[vp a1,vi (IntKind.wrap .i64 ((IntKind.wrap .i64 (64*ax))+k))] (by kernel_rfl) (λ_=>by kernel_rfl) h (by kernel_rfl) ?_;clear h
     rintro c5 b8 ⟨ra,a4,rfl,h⟩
     refine⟨[(0,vp (some d)),(2,vi g),(7,vp (pa f)),(9,vs (some l) xN xC),(10,vi j),(11,vp (pa p)),(13,vi k),(109,.tuple #[vu ra,vi a4])],pk,(show FactsAt _ _ _ from⟨trivial,trivial,trivial,trivial,trivial⟩),?_⟩
     refine T_g 18 (some 91) (.tuple #[vu ra,vi a4]) (bv 23 524287) [(0,vp (some d)),(2,vi g),(7,vp (pa f)),(9,vs (some l) xN xC),(10,vi j),(11,vp (pa p)),(13,vi k),(91,.tuple #[vu ra,vi a4])] (pure (.value (.tuple #[vu ra,vi a4])):Sem Next) (λ_ _ _ _ _=>rfl)<| T_g1 19 110 (vu ra) (bv 23 1048575) [] (pure (.value (vu ra)):Sem Next) (λ_ _ _ _ _=>rfl)<| T_g1 20 111 (vi a4) (bv 23 2097151) [91] (pure (.value (vi a4)):Sem Next) (λ_ _ _ _ _=>rfl)<| T_g1 21 14 (vu ra) (bv 23 4194303) [110] (pure (.value (vu ra)):Sem Next) (λ_ _ _ _ _=>rfl)<| T_gd 22 (some 15) (vi a4) (bv 23 8388607) [111] [] (pure (.value (vi a4)):Sem Next) (λ_ _ _ _ _=>rfl) ?_
     refine G_sub [(0,vp (some d)),(2,vi g),(7,vp (pa f)),(9,vs (some l) xN xC),(10,vi j),(11,vp (pa p)),(13,vi k),(14,vu ra)] sk ?_
     refine G_end (by kernel_rfl) ?_
     refine S_then ?_
     refine T_srz 15<| T_n 1 [(0,vp (some d)),(2,vi g),(7,vp (pa f)),(9,vs (some l) xN xC),(10,vi j),(11,vp (pa p)),(13,vi k),(14,vu ra),(112,vp (some ((ad p).add 1)))] ?_
     obtain⟨au,q46,h⟩:=h
     refine T_l1 113 3 q46 [112]<| T_nd 2 [113] [(115,.bool (au !=1))] ?_
     refine N_cut [(0,vp (some d)),(2,vi g),(7,vp (pa f)),(9,vs (some l) xN xC),(10,vi j),(11,vp (pa p)),(13,vi k),(14,vu ra),(119,.bool ((au !=1) || ((iand .i64 k 1)==1)))] ?_ ?_
     ·refine S_then ?_
      by_cases c49:((au !=1) || ((iand .i64 k 1)==1))=true
      ·rw[if_pos c49]at h
       refine T_cTz 119 c49<| T_rz 16<| T_n 3 [(0,vp (some d)),(2,vi g),(7,vp (pa f)),(9,vs (some l) xN xC),(10,vi j),(11,vp (pa p)),(13,vi k),(120,vp (pa f)),(121,vu ra),(122,vi g)] ?_
       refine T_c (some 123) h ?_;clear h
       intro v_5 cx h
       refine T_pd [120,121,122] [] ?_
       refine N_end (by kernel_rfl) ?_
       refine S_blockEnd ?_
       refine S_then ?_
       refine T_rz 13<| T_ed 3 [13] [(13,vi (IntKind.wrap .i64 (k+1)))] ?_
       exact S_round ((IntKind.wrap .i64 (k+1)):Int) sk h
      rw[if_neg c49]at h
      refine T_cFz 119 (eq_false_of_ne_true c49)<| T_k ?_
      refine S_blockEnd ?_
      refine S_then ?_
      refine T_rz 13<| T_ne 3 [(0,vp (some d)),(2,vi g),(7,vp (pa f)),(9,vs (some l) xN xC),(10,vi j),(11,vp (pa p)),(13,vi (IntKind.wrap .i64 (k+1)))] ?_
      exact S_round ((IntKind.wrap .i64 (k+1)):Int) sk h
     intro hk
     refine T_nu [(0,vp (some d)),(2,vi g),(7,vp (pa f)),(9,vs (some l) xN xC),(10,vi j),(11,vp (pa p)),(13,vi k),(14,vu ra),(115,.bool (au !=1))] ?_
     by_cases c47:au=1
     ·have b48:(au !=1)=false:=bne_eq_false_iff_eq.mpr c47
      refine N_env [(0,vp (some d)),(2,vi g),(7,vp (pa f)),(9,vs (some l) xN xC),(10,vi j),(11,vp (pa p)),(13,vi k),(14,vu ra),(115,.bool false)] (by rw[b48]) ?_
      refine T_nd 4 [115] [(119,.bool ((iand .i64 k 1)==1))] ?_
      refine N_end (by kernel_rfl) ?_
      refine S_bd 119 (b:=((iand .i64 k 1)==1)) (v:=((au !=1) || ((iand .i64 k 1)==1))) (by simp only[b48,BL]) ?_
      exact hk
     have b48:(au !=1)=true:=bne_iff_ne.mpr c47
     refine N_env [(0,vp (some d)),(2,vi g),(7,vp (pa f)),(9,vs (some l) xN xC),(10,vi j),(11,vp (pa p)),(13,vi k),(14,vu ra),(115,.bool true)] (by rw[b48]) ?_
     refine T_nd 4 [115] [(119,.bool true)] ?_
     refine N_end (by kernel_rfl) ?_
     refine S_bd 119 (b:=true) (v:=((au !=1) || ((iand .i64 k 1)==1))) (by simp only[b48,BL]) ?_
     exact hk
    rw[if_neg c36]at h
    refine N_bd 84 (decide_eq_false c36)<| T_ed 4 [84] [(88,.bool false)]<| T_fz 88 ?_
    refine S_exit 4 (by kernel_rfl) ?_
    refine S_exitThen ?_
    refine S_exitThen ?_
    refine S_exitHere ?_
    refine S_blockEnd ?_
    refine S_then ?_
    refine T_rz 9<| T_ed 3 [10,11,13,88] [(10,vi (IntKind.wrap .i64 (j+1)))] ?_
    exact S_round ((IntKind.wrap .i64 (j+1)):Int) sk h
   rw[if_neg c33]at h
   refine N_bd 78 (decide_eq_false c33)<| T_ed 10 [78] [(88,.bool false)]<| T_fz 88 ?_
   refine S_exit 4 (by kernel_rfl) ?_
   refine S_exitThen ?_
   refine S_exitThen ?_
   refine S_exitHere ?_
   refine S_blockEnd ?_
   refine S_then ?_
   refine T_rz 9<| T_ed 3 [10,11,13,88] [(10,vi (IntKind.wrap .i64 (j+1)))] ?_
   exact S_round ((IntKind.wrap .i64 (j+1)):Int) sk h
  replace h:=h.2
  refine O_new 18 (some 11) (bv 21 278527) (λb=>vp (pa b)) (.cells #[vi 0,vi 0,vi 0,vi 0,vi 0,vi 0,vi 0] 82) (by kernel_rfl) (λ_=>by kernel_rfl) (by kernel_rfl) ?_
  intro o H13 e55 e56
  replace h:=h o H13 e55 e56
  obtain⟨f51,f52,f53,f54,h⟩:=h
  refine⟨[(0,vp (some d)),(2,vi g),(7,vp (pa f)),(9,vs (some l) xN xC),(10,vi j),(11,vp (pa o)),(66,vp ba),(70,vi bh)],pk,(show FactsAt _ _ _ from⟨f51,f52,f53,f54,trivial⟩),?_⟩
  refine G_call 14 (some 71) (bv 21 294911) 24 #[vp ba,vi bh] (by kernel_rfl) (λ_=>by kernel_rfl) h (by kernel_rfl) ?_;clear h
  rintro c3 cp ⟨al,aj,ap,y,aa,z,ab,a6,rfl,h⟩
  refine⟨[(0,vp (some d)),(2,vi g),(7,vp (pa f)),(9,vs (some l) xN xC),(10,vi j),(11,vp (pa o)),(71,.tuple #[.agg #[vi al,vi aj,vi ap,vi y,vi aa,vi z,vi ab],.bool a6])],pk,(show FactsAt _ _ _ from⟨trivial,trivial,trivial,trivial,trivial⟩),?_⟩
  refine T_g 15 (some 56) (.tuple #[.agg #[vi al,vi aj,vi ap,vi y,vi aa,vi z,vi ab],.bool a6]) (bv 21 327679) [(0,vp (some d)),(2,vi g),(7,vp (pa f)),(9,vs (some l) xN xC),(10,vi j),(11,vp (pa o)),(56,.tuple #[.agg #[vi al,vi aj,vi ap,vi y,vi aa,vi z,vi ab],.bool a6])] (pure (.value (.tuple #[.agg #[vi al,vi aj,vi ap,vi y,vi aa,vi z,vi ab],.bool a6])):Sem Next) (λ_ _ _ _ _=>rfl)<| T_g1 16 72 (.agg #[vi al,vi aj,vi ap,vi y,vi aa,vi z,vi ab]) (bv 21 393215) [] (pure (.value (.agg #[vi al,vi aj,vi ap,vi y,vi aa,vi z,vi ab])):Sem Next) (λ_ _ _ _ _=>rfl)<| T_g1 17 73 (.bool a6) (bv 21 524287) [56] (pure (.value (.bool a6)):Sem Next) (λ_ _ _ _ _=>rfl) ?_
  obtain⟨q58,h⟩:=h
  refine G_onlyskip 19 none (bv 21 1048575) (storeN 82 (vp (pa o)) (.agg #[vi al,vi aj,vi ap,vi y,vi aa,vi z,vi ab])) (λHz=>Hz=hputs cp (ad o) [vi al,vi aj,vi ap,vi y,vi aa,vi z,vi ab] 0) (by kernel_rfl) (λ_=>by kernel_rfl) (ss_store [vi al,vi aj,vi ap,vi y,vi aa,vi z,vi ab] 7 (by kernel_rfl) (by kernel_rfl) (λ_=>by kernel_rfl) (by kernel_rfl) q58) (by kernel_rfl) ?_
  intro cn e57
  replace h:=h cn e57
  refine⟨[(0,vp (some d)),(2,vi g),(7,vp (pa f)),(9,vs (some l) xN xC),(10,vi j),(11,vp (pa o)),(73,.bool a6)],pk,(show FactsAt _ _ _ from⟨trivial,trivial,trivial,trivial,trivial⟩),?_⟩
  refine T_g 20 (some 12) (.bool a6) (bv 21 2097151) [(0,vp (some d)),(2,vi g),(7,vp (pa f)),(9,vs (some l) xN xC),(10,vi j),(11,vp (pa o))] (pure (.value (.bool a6)):Sem Next) (λ_ _ _ _ _=>rfl) ?_
  refine G_sub [(0,vp (some d)),(2,vi g),(7,vp (pa f)),(9,vs (some l) xN xC),(10,vi j),(11,vp (pa o))] sk ?_
  refine G_end (by kernel_rfl) ?_
  refine S_then ?_
  refine T_srz 11<| T_ne 1 [(0,vp (some d)),(2,vi g),(7,vp (pa f)),(9,vs (some l) xN xC),(10,vi j),(11,vp (pa o)),(13,vi 0)]<| T_bz 4 ?_
  obtain⟨b3,m58,i59,i60⟩:=h
  refine S_loop (x:=K42) (σ:=Int) (λs_=> [(0,vp (some d)),(2,vi g),(7,vp (pa f)),(9,vs (some l) xN xC),(10,vi j),(11,vp (pa o)),(13,vi s_)]) (λs_ H=>b3 s_ H) (λs_ H=>m58 s_ H) (0:Int) (by kernel_rfl) i59 sk ?_
  rintro n H16 i61
  have h:=i60 n H16 i61
  refine T_su [(0,vp (some d)),(2,vi g),(7,vp (pa f)),(9,vs (some l) xN xC),(10,vi j),(11,vp (pa o)),(13,vi n)]<| T_sz<| T_srz 12<| T_nd 2 [] [(74,vi n),(75,vp (some ((ad o).add 2)))] ?_
  obtain⟨bd,q62,h⟩:=h
  refine T_l1 76 3 q62 [75]<| T_nd 2 [74,76] [(78,.bool (decide (n<bd)))] ?_
  by_cases c63:n<bd
  ·rw[if_pos c63]at h
   refine N_bd 78 (decide_eq_true c63)<| T_nd 1 [] [(79,vp (pa o))] ?_
   obtain⟨be,q65,h⟩:=h
   refine T_l1 80 3 q65 [79]<| T_nd 4 [78,80] [(84,.bool (decide (be>g)))] ?_
   by_cases c66:be>g
   ·rw[if_pos c66]at h
    refine N_bd 84 (decide_eq_true c66)<| T_nd 1 [] [(85,vp (some ((ad o).add 1)))] ?_
    obtain⟨bc,q68,h⟩:=h
    refine T_l1 86 3 q68 [85]<| T_ed 2 [84,86] [(88,.bool (bc !=3))] ?_
    by_cases c69:bc=3
    ·rw[if_pos c69]at h
     refine T_cFz 88 (bne_eq_false_iff_eq.mpr c69) ?_
     refine S_exit 4 (by kernel_rfl) ?_
     refine S_exitThen ?_
     refine S_exitThen ?_
     refine S_exitHere ?_
     refine S_blockEnd ?_
     refine S_then ?_
     refine T_rz 9<| T_ed 3 [10,11,13,88] [(10,vi (IntKind.wrap .i64 (j+1)))] ?_
     exact S_round ((IntKind.wrap .i64 (j+1)):Int) sk h
    rw[if_neg c69]at h
    refine T_cTz 88 (bne_iff_ne.mpr c69)<| T_kt<| T_sz<| T_bz 5<| T_sz ?_
    obtain⟨ck,q71,h⟩:=h
    obtain⟨aw,rfl,h⟩:=h
    obtain⟨cl,q72,h⟩:=h
    obtain⟨a2,rfl,h⟩:=h
    obtain⟨ay,q73,h⟩:=h
    obtain⟨q74,h⟩:=h
    obtain⟨a0,q75,h⟩:=h
    refine S_regionG 14 (Code.ops K52) [(17,d,[vp (some aw)]),(17,aw,[vp (some a2)]),(17,a2,[vp ay]),(17,(l.add (Int.toNat j*1)),[vi a0])] 23 (bv 23 0) (by kernel_rfl) (by kernel_rfl) (by kernel_rfl) (by kernel_rfl) (by kernel_rfl) (show FactsAt _ _ _ from⟨⟨q71,trivial⟩,⟨q72,trivial⟩,⟨q73,trivial⟩,⟨q75,trivial⟩,trivial⟩) ?_
    refine T_gp 0 (some 92) (vp (some d)) (bv 23 1) [(0,vp (some d)),(2,vi g),(7,vp (pa f)),(9,vs (some l) xN xC),(10,vi j),(11,vp (pa o)),(13,vi n),(92,vp (some d))]<| T_gp1 1 93 (vp (some d)) (bv 23 3) [92]<| T_gp1 2 94 (vp (some d)) (bv 23 7) [93]<| T_g1 3 95 (vp (some aw)) (bv 23 15) [94] (loadN 54 (vp (some d))) (held_one 17 (λ_=>by kernel_rfl) (List.Mem.head _) (.inl (by kernel_rfl)))<| T_gp1 4 96 (vp (some aw)) (bv 23 31) [95]<| T_gp1 5 97 (vp (some aw)) (bv 23 63) [96]<| T_g1 6 98 (vp (some a2)) (bv 23 127) [97] (loadN 58 (vp (some aw))) (held_one 17 (λ_=>by kernel_rfl) (List.Mem.tail _ (List.Mem.head _)) (.inl (by kernel_rfl)))<| T_gp1 7 99 (vp (some a2)) (bv 23 255) [98]<| T_gp1 8 100 (vp (some a2)) (bv 23 511) [99] ?_
    refine T_g1 9 101 (vp ay) (bv 23 1023) [100] (loadN 61 (vp (some a2))) (held_one 17 (λ_=>by kernel_rfl) (List.Mem.tail _ (List.Mem.tail _ (List.Mem.head _))) (.inl (by kernel_rfl)))<| T_gp1 10 102 (vs (some l) xN xC) (bv 23 2047) []<| T_gp1 11 103 (vi j) (bv 23 4095) []<| T_g1 12 104 (vp (some (l.add (Int.toNat j*1)))) (bv 23 8191) [102,103] (indexAtN 52 (vs (some l) xN xC) (vi j)) (λ_ w _ _ _=>indexAt_run (P:=Tryz.prog) (t:=52) (elem:=3) (sz:=1) (a:=l) (len:=xN) (cap:=xC) (k:=.i64) (i:=j) Tryz.underlying52 (λ_=>by kernel_rfl) q74.1 q74.2 w)<| T_g1 13 105 (vi a0) (bv 23 16383) [104] (loadN 3 (vp (some (l.add (Int.toNat j*1))))) (held_one 17 (λ_=>by kernel_rfl) (List.Mem.tail _ (List.Mem.tail _ (List.Mem.tail _ (List.Mem.head _)))) (.inl (by kernel_rfl)))<| T_gp1 14 106 (vi (IntKind.wrap .i64 (64*a0))) (bv 23 32767) [105]<| T_gp1 15 107 (vi n) (bv 23 65535) []<| T_gp1 16 108 (vi (IntKind.wrap .i64 ((IntKind.wrap .i64 (64*a0))+n))) (bv 23 131071) [106,107] ?_
    refine G_call 17 (some 109) (bv 23 262143) 38 #[vp ay,vi (IntKind.wrap .i64 ((IntKind.wrap .i64 (64*a0))+n))] (by kernel_rfl) (λ_=>by kernel_rfl) h (by kernel_rfl) ?_;clear h
    rintro c0 cd ⟨ai,a5,rfl,h⟩
    refine⟨[(0,vp (some d)),(2,vi g),(7,vp (pa f)),(9,vs (some l) xN xC),(10,vi j),(11,vp (pa o)),(13,vi n),(109,.tuple #[vu ai,vi a5])],pk,(show FactsAt _ _ _ from⟨trivial,trivial,trivial,trivial,trivial⟩),?_⟩
    refine T_g 18 (some 91) (.tuple #[vu ai,vi a5]) (bv 23 524287) [(0,vp (some d)),(2,vi g),(7,vp (pa f)),(9,vs (some l) xN xC),(10,vi j),(11,vp (pa o)),(13,vi n),(91,.tuple #[vu ai,vi a5])] (pure (.value (.tuple #[vu ai,vi a5])):Sem Next) (λ_ _ _ _ _=>rfl)<| T_g1 19 110 (vu ai) (bv 23 1048575) [] (pure (.value (vu ai)):Sem Next) (λ_ _ _ _ _=>rfl)<| T_g1 20 111 (vi a5) (bv 23 2097151) [91] (pure (.value (vi a5)):Sem Next) (λ_ _ _ _ _=>rfl)<| T_g1 21 14 (vu ai) (bv 23 4194303) [110] (pure (.value (vu ai)):Sem Next) (λ_ _ _ _ _=>rfl)<| T_gd 22 (some 15) (vi a5) (bv 23 8388607) [111] [] (pure (.value (vi a5)):Sem Next) (λ_ _ _ _ _=>rfl) ?_
    refine G_sub [(0,vp (some d)),(2,vi g),(7,vp (pa f)),(9,vs (some l) xN xC),(10,vi j),(11,vp (pa o)),(13,vi n),(14,vu ai)] sk ?_
    refine G_end (by kernel_rfl) ?_
    refine S_then ?_
    refine T_srz 15<| T_n 1 [(0,vp (some d)),(2,vi g),(7,vp (pa f)),(9,vs (some l) xN xC),(10,vi j),(11,vp (pa o)),(13,vi n),(14,vu ai),(112,vp (some ((ad o).add 1)))] ?_
    obtain⟨av,q76,h⟩:=h
    refine T_l1 113 3 q76 [112]<| T_nd 2 [113] [(115,.bool (av !=1))] ?_
    refine N_cut [(0,vp (some d)),(2,vi g),(7,vp (pa f)),(9,vs (some l) xN xC),(10,vi j),(11,vp (pa o)),(13,vi n),(14,vu ai),(119,.bool ((av !=1) || ((iand .i64 n 1)==1)))] ?_ ?_
    ·refine S_then ?_
     by_cases c79:((av !=1) || ((iand .i64 n 1)==1))=true
     ·rw[if_pos c79]at h
      refine T_cTz 119 c79<| T_rz 16<| T_n 3 [(0,vp (some d)),(2,vi g),(7,vp (pa f)),(9,vs (some l) xN xC),(10,vi j),(11,vp (pa o)),(13,vi n),(120,vp (pa f)),(121,vu ai),(122,vi g)] ?_
      refine T_c (some 123) h ?_;clear h
      intro v_8 ct h
      refine T_pd [120,121,122] [] ?_
      refine N_end (by kernel_rfl) ?_
      refine S_blockEnd ?_
      refine S_then ?_
      refine T_rz 13<| T_ed 3 [13] [(13,vi (IntKind.wrap .i64 (n+1)))] ?_
      exact S_round ((IntKind.wrap .i64 (n+1)):Int) sk h
     rw[if_neg c79]at h
     refine T_cFz 119 (eq_false_of_ne_true c79)<| T_k ?_
     refine S_blockEnd ?_
     refine S_then ?_
     refine T_rz 13<| T_ne 3 [(0,vp (some d)),(2,vi g),(7,vp (pa f)),(9,vs (some l) xN xC),(10,vi j),(11,vp (pa o)),(13,vi (IntKind.wrap .i64 (n+1)))] ?_
     exact S_round ((IntKind.wrap .i64 (n+1)):Int) sk h
    intro hk
    refine T_nu [(0,vp (some d)),(2,vi g),(7,vp (pa f)),(9,vs (some l) xN xC),(10,vi j),(11,vp (pa o)),(13,vi n),(14,vu ai),(115,.bool (av !=1))] ?_
    by_cases c77:av=1
    ·have b78:(av !=1)=false:=bne_eq_false_iff_eq.mpr c77
     refine N_env [(0,vp (some d)),(2,vi g),(7,vp (pa f)),(9,vs (some l) xN xC),(10,vi j),(11,vp (pa o)),(13,vi n),(14,vu ai),(115,.bool false)] (by rw[b78]) ?_
     refine T_nd 4 [115] [(119,.bool ((iand .i64 n 1)==1))] ?_
     refine N_end (by kernel_rfl) ?_
     refine S_bd 119 (b:=((iand .i64 n 1)==1)) (v:=((av !=1) || ((iand .i64 n 1)==1))) (by simp only[b78,BL]) ?_
     exact hk
    have b78:(av !=1)=true:=bne_iff_ne.mpr c77
    refine N_env [(0,vp (some d)),(2,vi g),(7,vp (pa f)),(9,vs (some l) xN xC),(10,vi j),(11,vp (pa o)),(13,vi n),(14,vu ai),(115,.bool true)] (by rw[b78]) ?_
    refine T_nd 4 [115] [(119,.bool true)] ?_
    refine N_end (by kernel_rfl) ?_
    refine S_bd 119 (b:=true) (v:=((av !=1) || ((iand .i64 n 1)==1))) (by simp only[b78,BL]) ?_
    exact hk
   rw[if_neg c66]at h
   refine N_bd 84 (decide_eq_false c66)<| T_ed 4 [84] [(88,.bool false)]<| T_fz 88 ?_
   refine S_exit 4 (by kernel_rfl) ?_
   refine S_exitThen ?_
   refine S_exitThen ?_
   refine S_exitHere ?_
   refine S_blockEnd ?_
   refine S_then ?_
   refine T_rz 9<| T_ed 3 [10,11,13,88] [(10,vi (IntKind.wrap .i64 (j+1)))] ?_
   exact S_round ((IntKind.wrap .i64 (j+1)):Int) sk h
  rw[if_neg c63]at h
  refine N_bd 78 (decide_eq_false c63)<| T_ed 10 [78] [(88,.bool false)]<| T_fz 88 ?_
  refine S_exit 4 (by kernel_rfl) ?_
  refine S_exitThen ?_
  refine S_exitThen ?_
  refine S_exitHere ?_
  refine S_blockEnd ?_
  refine S_then ?_
  refine T_rz 9<| T_ed 3 [10,11,13,88] [(10,vi (IntKind.wrap .i64 (j+1)))] ?_
  exact S_round ((IntKind.wrap .i64 (j+1)):Int) sk h
 rw[if_neg c18]at h
 refine T_cFz 53 (decide_eq_false c18) ?_
 refine S_exit 2 (by kernel_rfl) ?_
 refine S_exitThen ?_
 refine S_exitThen ?_
 refine S_exitHere ?_
 refine S_then ?_
 refine T_srz 17<| T_ed 1 [9,10,53] [(16,vi 0)]<| T_sz<| T_srz 18<| T_ed 1 [] [(17,vi 0)]<| T_bz 6 ?_
 obtain⟨bz,m66,i81,i82⟩:=h
 refine S_loop (x:=K65) (σ:=Int×Int) (λs_=> [(0,vp (some d)),(2,vi g),(7,vp (pa f)),(16,vi s_.1),(17,vi s_.2)]) (λs_ H=>bz s_.1 s_.2 H) (λs_ H=>m66 s_.1 s_.2 H) ((0,0):Int×Int) (by kernel_rfl) i81 sk ?_
 rintro⟨q,i_3⟩ H19 i83
 have h:=i82 q i_3 H19 i83
 refine T_su [(0,vp (some d)),(2,vi g),(7,vp (pa f)),(16,vi q),(17,vi i_3)]<| T_sz<| T_srz 19<| T_nd 4 [] [(124,vi i_3),(127,vp (some ((ad f).add 1)))] ?_
 obtain⟨b5,bf,b4,q84,h⟩:=h
 refine T_l1 128 34 q84 [127]<| T_ed 2 [124,128] [(130,.bool (decide (i_3< (bf:Int))))] ?_
 by_cases c85:i_3< (bf:Int)
 ·rw[if_pos c85]at h
  refine T_cTz 130 (decide_eq_true c85)<| T_kt<| T_sz<| T_bz 7<| T_srz 21<| T_nd 3 [130] [(135,vp (some ((ad f).add 1)))] ?_
  obtain⟨br,bk,bo,q87,h⟩:=h
  refine T_l1 136 34 q87 [135]<| T_nd 1 [] [(137,vi i_3)] ?_
  obtain⟨bl,rfl,h⟩:=h
  obtain⟨q88,h⟩:=h
  refine T_xd (some 138) 34 36 1 bl bk bo .i64 i_3 Tryz.underlying34 q88.1 q88.2 [136,137] [(138,vp (some (bl.add (Int.toNat i_3*1))))] ?_
  obtain⟨m,q89,h⟩:=h
  refine T_l1 139 36 q89 [138]<| T_ed 1 [139] [(18,vu m)]<| T_srz 22<| T_nd 3 [16] [(140,vi q),(141,vp (some d)),(142,vu m)] ?_
  refine T_c (some 143) h ?_;clear h
  rintro c6 c4 ⟨r,rfl,h⟩
  refine T_pd [141,142] [(143,vi r)]<| T_ed 2 [140,143] [(16,vi (IntKind.wrap .i64 (q+r)))]<| T_srz 23<| T_ed 1 [] [(19,vi 0)]<| T_bz 8 ?_
  obtain⟨b2,m83,i90,i91⟩:=h
  refine S_loop (x:=K82) (σ:=Int) (λs_=> [(0,vp (some d)),(2,vi g),(7,vp (pa f)),(16,vi (IntKind.wrap .i64 (q+r))),(17,vi i_3),(18,vu m),(19,vi s_)]) (λs_ H=>b2 s_ H) (λs_ H=>m83 s_ H) (0:Int) (by kernel_rfl) i90 sk ?_
  rintro s H21 i92
  have h:=i91 s H21 i92
  refine T_su [(0,vp (some d)),(2,vi g),(7,vp (pa f)),(16,vi (IntKind.wrap .i64 (q+r))),(17,vi i_3),(18,vu m),(19,vi s)]<| T_sz<| T_srz 24<| T_nd 3 [] [(145,vi s),(146,vp (some d)),(147,vu m)] ?_
  refine T_c (some 148) h ?_;clear h
  rintro cy cq ⟨bm,rfl,h⟩
  refine T_pd [146,147] [(148,vi bm)]<| T_nd 2 [145,148] [(150,.bool (decide (s<bm)))] ?_
  by_cases c93:s<bm
  ·rw[if_pos c93]at h
   refine N_bd 150 (decide_eq_true c93)<| T_nd 2 [] [(151,vp (some d)),(152,vu m)] ?_
   refine T_c (some 153) h ?_;clear h
   rintro cs co ⟨bj,rfl,h⟩
   refine T_pd [151,152] [(153,vi bj)]<| T_nd 3 [150,153] [(156,.bool (bj !=2))] ?_
   by_cases c95:bj=2
   ·rw[if_pos c95]at h
    refine N_bd 156 (bne_eq_false_iff_eq.mpr c95)<| T_ed 5 [156] [(161,.bool false)]<| T_fz 161 ?_
    refine S_exit 8 (by kernel_rfl) ?_
    refine S_exitThen ?_
    refine S_exitThen ?_
    refine S_exitHere ?_
    refine S_blockEnd ?_
    refine S_then ?_
    refine T_rz 20<| T_ed 3 [17,18,19,161] [(17,vi (IntKind.wrap .i64 (i_3+1)))] ?_
    exact S_round (((IntKind.wrap .i64 (q+r)),(IntKind.wrap .i64 (i_3+1))):Int×Int) sk h
   rw[if_neg c95]at h
   refine N_bd 156 (bne_iff_ne.mpr c95)<| T_nd 2 [] [(157,vp (some d)),(158,vu m)] ?_
   refine T_c (some 159) h ?_;clear h
   rintro cz bx ⟨bi,rfl,h⟩
   refine T_pd [157,158] [(159,vi bi)]<| T_ed 2 [156,159] [(161,.bool (bi !=3))] ?_
   by_cases c97:bi=3
   ·rw[if_pos c97]at h
    refine T_cFz 161 (bne_eq_false_iff_eq.mpr c97) ?_
    refine S_exit 8 (by kernel_rfl) ?_
    refine S_exitThen ?_
    refine S_exitThen ?_
    refine S_exitHere ?_
    refine S_blockEnd ?_
    refine S_then ?_
    refine T_rz 20<| T_ed 3 [17,18,19,161] [(17,vi (IntKind.wrap .i64 (i_3+1)))] ?_
    exact S_round (((IntKind.wrap .i64 (q+r)),(IntKind.wrap .i64 (i_3+1))):Int×Int) sk h
   rw[if_neg c97]at h
   refine T_cTz 161 (bne_iff_ne.mpr c97)<| T_kt<| T_sz<| T_bz 9<| T_srz 26<| T_nd 3 [161] [(167,vp (some d))] ?_
   obtain⟨bu,q99,h⟩:=h
   refine T_l1 168 54 q99 [167] ?_
   obtain⟨bt,rfl,h⟩:=h
   refine T_nd 2 [168] [(170,vp (some bt))] ?_
   obtain⟨bw,q100,h⟩:=h
   refine T_l1 171 58 q100 [170] ?_
   obtain⟨bs,rfl,h⟩:=h
   refine T_nd 2 [171] [(173,vp (some bs))] ?_
   obtain⟨bp,q101,h⟩:=h
   refine T_l1 174 61 q101 [173]<| T_nd 5 [] [(179,vi (IntKind.wrap .i64 ((IntKind.wrap .i64 (ishr .u64 m 3))+s)))] ?_
   refine T_c (some 180) h ?_;clear h
   rintro cr cm ⟨aq,cj,rfl,h⟩
   refine T_pd [174,179] [(180,.tuple #[vu aq,vi cj])]<| T_ed 5 [180] [(20,vu aq)]<| T_srz 27 ?_
   refine N_cut [(0,vp (some d)),(2,vi g),(7,vp (pa f)),(16,vi (IntKind.wrap .i64 (q+r))),(17,vi i_3),(18,vu m),(19,vi s),(20,vu aq),(189,.bool (((iand .u64 m 7) !=2) || (s==1)))] ?_ ?_
   ·refine S_then ?_
    by_cases c104:(((iand .u64 m 7) !=2) || (s==1))=true
    ·rw[if_pos c104]at h
     refine T_cTz 189 c104<| T_rz 28<| T_n 3 [(0,vp (some d)),(2,vi g),(7,vp (pa f)),(16,vi (IntKind.wrap .i64 (q+r))),(17,vi i_3),(18,vu m),(19,vi s),(190,vp (pa f)),(191,vu aq),(192,vi g)] ?_
     refine T_c (some 193) h ?_;clear h
     intro v_14 cv h
     refine T_pd [190,191,192] [] ?_
     refine N_end (by kernel_rfl) ?_
     refine S_blockEnd ?_
     refine S_then ?_
     refine T_rz 25<| T_ed 3 [19] [(19,vi (IntKind.wrap .i64 (s+1)))] ?_
     exact S_round ((IntKind.wrap .i64 (s+1)):Int) sk h
    rw[if_neg c104]at h
    refine T_cFz 189 (eq_false_of_ne_true c104)<| T_k ?_
    refine S_blockEnd ?_
    refine S_then ?_
    refine T_rz 25<| T_ne 3 [(0,vp (some d)),(2,vi g),(7,vp (pa f)),(16,vi (IntKind.wrap .i64 (q+r))),(17,vi i_3),(18,vu m),(19,vi (IntKind.wrap .i64 (s+1)))] ?_
    exact S_round ((IntKind.wrap .i64 (s+1)):Int) sk h
   intro hk
   refine T_n 4 [(0,vp (some d)),(2,vi g),(7,vp (pa f)),(16,vi (IntKind.wrap .i64 (q+r))),(17,vi i_3),(18,vu m),(19,vi s),(20,vu aq),(186,.bool ((iand .u64 m 7) !=2))] ?_
   by_cases c102:(iand .u64 m 7)=2
   ·have b103:((iand .u64 m 7) !=2)=false:=bne_eq_false_iff_eq.mpr c102
    refine N_env [(0,vp (some d)),(2,vi g),(7,vp (pa f)),(16,vi (IntKind.wrap .i64 (q+r))),(17,vi i_3),(18,vu m),(19,vi s),(20,vu aq),(186,.bool false)] (by rw[b103]) ?_
    refine T_nd 3 [186] [(189,.bool (s==1))] ?_
    refine N_end (by kernel_rfl) ?_
    refine S_bd 189 (b:=(s==1)) (v:=(((iand .u64 m 7) !=2) || (s==1))) (by simp only[b103,BL]) ?_
    exact hk
   have b103:((iand .u64 m 7) !=2)=true:=bne_iff_ne.mpr c102
   refine N_env [(0,vp (some d)),(2,vi g),(7,vp (pa f)),(16,vi (IntKind.wrap .i64 (q+r))),(17,vi i_3),(18,vu m),(19,vi s),(20,vu aq),(186,.bool true)] (by rw[b103]) ?_
   refine T_nd 3 [186] [(189,.bool true)] ?_
   refine N_end (by kernel_rfl) ?_
   refine S_bd 189 (b:=true) (v:=(((iand .u64 m 7) !=2) || (s==1))) (by simp only[b103,BL]) ?_
   exact hk
  rw[if_neg c93]at h
  refine N_bd 150 (decide_eq_false c93)<| T_ed 11 [150] [(161,.bool false)]<| T_fz 161 ?_
  refine S_exit 8 (by kernel_rfl) ?_
  refine S_exitThen ?_
  refine S_exitThen ?_
  refine S_exitHere ?_
  refine S_blockEnd ?_
  refine S_then ?_
  refine T_rz 20<| T_ed 3 [17,18,19,161] [(17,vi (IntKind.wrap .i64 (i_3+1)))] ?_
  exact S_round (((IntKind.wrap .i64 (q+r)),(IntKind.wrap .i64 (i_3+1))):Int×Int) sk h
 rw[if_neg c85]at h
 refine T_cFz 130 (decide_eq_false c85) ?_
 refine S_exit 6 (by kernel_rfl) ?_
 refine S_exitThen ?_
 refine S_exitThen ?_
 refine S_exitHere ?_
 refine S_then ?_
 exact T_srz 29<| T_nr 2 [6] [vi q] hQ h
end morainelaw11_reached

end Go.Proofs.YtdoghjgbhefphaaGreat
