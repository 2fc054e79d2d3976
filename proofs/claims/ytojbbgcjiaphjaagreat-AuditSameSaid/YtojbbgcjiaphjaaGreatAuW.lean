/-
 Law 14's example: what it computes, in numbers. Proves nothing of any one statement.
-/
import Derived.Test.YtojbbgcjiaphjaaGreatAuT
import Derived.Test.YtojbbgcjiaphjaaGreatAuN
set_option linter.unusedVariables false
set_option linter.unusedSimpArgs false
namespace Go.Proofs.YtojbbgcjiaphjaaGreat
open Go

def aw0:Sp:=⟨Mem.fresh 8,λ_ _=>0⟩
def aw1:Sp:=(aw0.put 0 1 [8,20]).1
def aw2:Sp:=(aw1.put 1 2 [1,20]).1
def aw3:Mem:=aw2.mem.set 0 17
theorem aw_1:(aw0.put 0 1 [8,20]).2=(1,0):=by kernel_rfl
theorem aw_2:(aw1.put 1 2 [1,20]).2=(514,0):=by kernel_rfl
theorem qT:aw1.mem.count=1:=by kernel_rfl
theorem aw_t:aw2.mem.takenTo [] aw2.mem.limit=[0,1]:=by kernel_rfl
theorem pQ:bF aw2.mem [0,1]=[(1,2),(514,2)]:=by kernel_rfl
theorem qU:(List.range 8).all (λk:Nat=>(List.range 4).all λc:Nat=>decide ((aw2.mem.seg k).cards c<=aw2.mem.mark1 k c))=true:=by kernel_rfl
theorem qV:ckV aw2.mem [1,514] [1,514] [1,514]=(0,0):=by kernel_rfl
theorem oD:fZ aw2.mem [514] 1=[514]:=by kernel_rfl
theorem qJ:(kJ aw2.mem [514] 514).2.2.2.2=[-1,0]:=by kernel_rfl
theorem qt:decide (aw2.mem.used 0)=true:=by kernel_rfl
theorem pR:aw3.takenTo [] aw3.limit=[0,1]:=by kernel_rfl
theorem nX:bF aw3 [0,1]=[(1,2),(514,2)]:=by kernel_rfl
theorem qK:(List.range 8).all (λk:Nat=>(List.range 4).all λc:Nat=>decide ((aw3.seg k).cards c<=aw3.mark1 k c))=true:=by kernel_rfl
theorem qL:ckV aw3 [1,514] [1,514] []=(0,18):=by kernel_rfl
theorem nt:fZ aw3 [514] 1=[514]:=by kernel_rfl
theorem pS:j3 aw3 [514]=2:=by kernel_rfl
theorem pT:aw2.mem.limit=8:=by kernel_rfl
theorem lf:(aw2.mem.seg 0).taken=1/\(aw2.mem.seg 1).taken=2:=⟨by kernel_rfl,by kernel_rfl⟩
theorem mq:(aw3.seg 0).taken=1/\(aw3.seg 1).taken=2:=⟨by kernel_rfl,by kernel_rfl⟩
theorem hX{m:Mem}{l:List Nat}(h:eW m [] l)(ht:m.takenTo [] m.limit=[0,1])(h0:(m.seg 0).taken=1)(h1:(m.seg 1).taken=2):l=[0,1]:=by
 have hp:=h.perm
 rw[ht]at hp
 have hl:=hp.length_eq
 match l,hl with
 | [a,b],_=>
  have hs:=h.sorted
  rw[List.pairwise_cons]at hs
  have hab:=hs.1 b (by simp)
  have ha:a∈[0,1]:=hp.subset (by simp)
  have hb:b∈[0,1]:=hp.subset (by simp)
  have hnd:=hp.nodup_iff.2 (by decide)
  simp at ha hb hnd
  rcases ha with rfl | rfl
  ·rcases hb with rfl | rfl
   ·exact absurd rfl hnd
   ·rfl
  ·rcases hb with rfl | rfl
   ·rw[h0,h1]at hab;omega
   ·exact absurd rfl hnd
theorem nu{m:Mem}(hl:m.limit=8)(h:(List.range 8).all (λk:Nat=>(List.range 4).all λc:Nat=>decide ((m.seg k).cards c<=m.mark1 k c))=true): ∀k:Nat,m.has k-> ∀c:Nat,c<4->(m.seg k).cards c<=m.mark1 k c:=by
 intro k hk c hc
 have hk8:k<8:=by have:=hk.2.1;omega
 rw[List.all_eq_true]at h
 have h1:=h k (List.mem_range.2 hk8)
 rw[List.all_eq_true]at h1
 exact of_decide_eq_true (h1 c (List.mem_range.2 hc))
open Go.ChangeShapes Go.WideShapes

theorem lL{H:zV}{b:Blk}{s:Sp}{ep:Int}:kR H b ⟨s,.slice none 0 0,.slice none 0 0,ep⟩ [] []:=
 ⟨⟨none,0,rfl,by rw[SrcAt_none];rfl⟩,⟨none,0,rfl,λi h=>absurd h (by simp)⟩,by simp⟩
theorem o8{n:Int}(h:aP n):(Lit.int .u64 n).wf=true:=by
 simp only[Lit.wf,Bool.and_eq_true,decide_eq_true_eq]
 obtain⟨h1,h2⟩:=h
 constructor
 ·exact h1
 ·show n<=18446744073709551615;omega
theorem nw{H:zV}{b:Nat}{ws:List Int}(g:H[b]?=some (.cells (wvs ws).toArray 40 (0,0)))(hw: ∀w∈ws,aP w):Nums H .u64 (some ⟨b,0,none⟩) ws.length ws:=
 ⟨rfl,(show aS H ⟨b,0,none⟩ 0 (wvs ws)from jn g),λw hw'=>by
  have:=hw w hw'
  exact o8 this⟩
set_option maxRecDepth 100000 in
set_option maxHeartbeats 1000000 in
theorem o9{H:zV}:aY.C H (λv H'=>v=.bool true/\Ext H H'):=by
 refine HC.via λR hR=>aY.link ?_
 unfold aY.pt
 refine HC.mono (oM (limit:=8) (by decide)) ?_
 rintro _ H1 (⟨hc,rfl,e1⟩ | ⟨hc,b,x0,rfl,V1,hx,e1,hb1⟩)
 ·exact absurd (by decide) hc
 refine⟨_,_,rfl,?_⟩
 rw[if_pos rfl,onPtr_some]
 subst hx
 have V1':View H1 (some ⟨b.h,0,none⟩) (some (b,⟨aw0,.slice none 0 0,.slice none 0 0,0⟩)):=V1
 clear V1
 refine HC.mono (nL V1' (by decide) (by decide) (show(0:Int)<_ by decide)) ?_
 rintro _ H2 ⟨rfl,V2,f2⟩
 refine⟨1,0,by rw[show putR (some (b,(⟨aw0,.slice none 0 0,.slice none 0 0,0⟩:Hp))) 0 1 [8,20]=(1,0)from aw_1],?_⟩
 have V2':View H2 (some ⟨b.h,0,none⟩) (some (b,⟨aw1,.slice none 0 0,.slice none 0 0,0⟩)):=V2
 clear V2
 refine HC.mono (nM V2' (by decide) (by decide) (show aw1.mem.count<_ by rw[qT];decide)) ?_
 rintro _ H3 ⟨rfl,V3,f3⟩
 refine⟨514,0,by rw[show putR (some (b,(⟨aw1,.slice none 0 0,.slice none 0 0,0⟩:Hp))) 1 2 [1,20]=(514,0)from aw_2],?_⟩
 have V3':View H3 (some ⟨b.h,0,none⟩) (some (b,⟨aw2,.slice none 0 0,.slice none 0 0,0⟩)):=V3
 clear V3
 obtain⟨-,hp3,ok3⟩:=V3'.inv
 have hown: ∀x:Hp,∀j∈own (some (b,x)),H.size<=j:=λx j hj=>hb1 j (by simp[own]at hj;simp[Blk.all];omega)
 have E3:Ext H H3:=(e1.fr_trans f2 (hown _)).fr_trans f3 (hown _)
 have hlim:aw2.mem.limit=8:=pT
 have hsz: ∀l,eW aw2.mem [] l-> ∀p∈bF aw2.mem l,p.2≠0:=λl hl p hp=>by
  rw[hX hl aw_t lf.1 lf.2,pQ]at hp
  simp at hp
  rcases hp with rfl | rfl<;>decide
 have hmk:=nu pT qU
 have hfst:(bF aw2.mem [0,1]).map Prod.fst=[1,514]:=by rw[pQ];rfl
 have hws:wsOf (bF aw2.mem [0,1])=[1,514]:=by rw[pQ];rfl
 refine HC.mono (nj hp3 ok3 hp3.lt) ?_
 rintro _ H4 ⟨B,c,l,hl,rfl,how,hBf,e4⟩
 obtain rfl:=hX hl aw_t lf.1 lf.2
 rw[show(⟨aw2,.slice none 0 0,.slice none 0 0,0⟩:Hp).sp.mem=aw2.mem from rfl,hws]at how⊢
 refine⟨B,_,c,rfl,λb5 H5 hb5 hH5=>?_⟩
 have e5:Ext H4 H5:=Ext.push' hH5
 have e35:=e4.trans e5
 refine HC.mono (oA (roots:=[1,514]) (syms:=[]) (es:=[]) (hp3.ext e35) ok3 lL (show aS H5 ⟨b5,0,none⟩ 0 (wvs [1,514])from jn (aG hb5 hH5)) rfl (by decide) (by intro w hw;simp[eI]at hw;rcases hw with rfl | rfl<;>decide) hsz hmk) ?_
 rintro _ H6 ⟨l1,l2,hl1,hl2,rfl,e6⟩
 obtain rfl:=hX hl1 aw_t lf.1 lf.2
 obtain rfl:=hX hl2 aw_t lf.1 lf.2
 rw[show(⟨aw2,.slice none 0 0,.slice none 0 0,0⟩:Hp).sp.mem=aw2.mem from rfl,hws,hfst,show eI [1,514] [] []=[1,514]from rfl,qV]
 refine⟨0,0,rfl,λb7 H7 hb7 hH7=>?_⟩
 have e7:Ext H6 H7:=Ext.push' hH7
 have e37:=e35.trans (e6.trans e7)
 have z7:H7.size=H6.size+1:=by rw[hH7];simp
 refine HC.mono (oZ (roots:=[514]) (hp3.ext e37) ok3 (nw (ws:=[514]) (aG hb7 hH7) (by intro w hw;simp at hw;subst hw;decide)) (by decide) (by intro w hw;simp at hw;subst hw;decide) (λj hj=>by simp at hj;omega)) ?_
 rintro _ H8 ⟨oB,oC,ks,T,L,⟨k,hL,hk⟩,rfl,O,hks,hT,hoB,e8⟩
 have hL1:L=[514]:=by
  rw[hL]
  have:=lJ aw2.mem [514] (j:=k) (k:=1) (by rw[show fZ aw2.mem [514] k=L from hL.symm];omega) (by rw[oD];simp)
  exact this.trans oD
 subst hL1
 have e38:=e37.trans e8
 have hp8:=hp3.ext e38
 refine⟨oB,_,oC,rfl,_,hp8.hPtr,_,rfl,_,hp8.cd.cPtr,_,rfl,_,hp8.cd.sp.memPtr,?_⟩
 refine HC.mono (kX hp8.cd.sp.mem ok3.mem (by decide)) ?_
 have hu:aw2.mem.used 0:=of_decide_eq_true qt
 have hu':(⟨aw2,.slice none 0 0,.slice none 0 0,0⟩:Hp).sp.mem.used 0:=hu
 rw[if_pos hu',if_pos hu']
 rintro _ H9 ⟨rfl,M9,f9⟩
 have hp9:HpAt H9 b ⟨⟨aw3,aw2.cur⟩,.slice none 0 0,.slice none 0 0,0⟩:=hp8.withMem f9 (λi hi=>by simp at hi;exact .inr hi) M9
 have ok9:SpOK (⟨aw3,aw2.cur⟩:Sp):=by
  have:=SpOK.sets ok3 0 (ws:=[17]) (by intro w hw;simp at hw;subst hw;decide)
  have e:aw2.mem.sets 0 [17]=aw3:=by
   show(if aw2.mem.used 0 then aw2.mem.set 0 17 else aw2.mem)=aw3
   rw[if_pos hu];rfl
  rw[show(⟨aw2,.slice none 0 0,.slice none 0 0,0⟩:Hp).sp.mem=aw2.mem from rfl,e]at this
  exact this
 have hsz3: ∀l,eW aw3 [] l-> ∀p∈bF aw3 l,p.2≠0:=λl hl p hp=>by
  rw[hX hl pR mq.1 mq.2,nX]at hp
  simp at hp
  rcases hp with rfl | rfl<;>decide
 have hmk3:=nu (m:=aw3) pT qK
 have hfst3:(bF aw3 [0,1]).map Prod.fst=[1,514]:=by rw[nX];rfl
 have hws3:wsOf (bF aw3 [0,1])=[1,514]:=by rw[nX];rfl
 refine⟨0,rfl,?_⟩
 refine HC.mono (oA (roots:=[]) (syms:=[]) (es:=[]) hp9 ok9 lL (by rw[SrcAt_none];rfl) rfl (by decide) (by intro w hw;simp[eI]at hw) hsz3 hmk3) ?_
 rintro _ H10 ⟨l1,l2,hl1,hl2,rfl,e10⟩
 obtain rfl:=hX hl1 pR mq.1 mq.2
 obtain rfl:=hX hl2 pR mq.1 mq.2
 rw[show(⟨⟨aw3,aw2.cur⟩,.slice none 0 0,.slice none 0 0,0⟩:Hp).sp.mem=aw3 from rfl,hws3,hfst3,show eI [] [] []=[]from rfl,qL]
 refine⟨0,18,rfl,?_⟩
 have lbs:b.s<H3.size:=hp3.lt b.s (by simp[Blk.all])
 have z37:=e37.size
 have how10:=((how.ext ((e5.trans (e6.trans e7)).trans e8)).keep f9 (λj hj h=>by simp at h;have:=hBf j hj;omega)).ext e10
 rw[if_pos rfl]
 obtain⟨pa,p1,p2⟩:=jZ how10.src (i:=0) (by simp)
 obtain⟨pa',p1',p2'⟩:=jZ how10.src (i:=1) (by simp)
 rw[p1]at p1'
 cases p1'
 refine⟨pa,p1,⟨by decide,by decide⟩,1,p2,?_⟩
 rw[if_pos rfl]
 refine⟨⟨by decide,by decide⟩,514,p2',?_⟩
 rw[if_pos rfl,if_pos rfl]
 intro b11 H11 hb11 hH11
 have e11:Ext H10 H11:=Ext.push' hH11
 have z11:H11.size=H10.size+1:=by rw[hH11];simp
 refine HC.mono (qI (roots:=[514]) (hp9.ext (e10.trans e11)) ok9 (nw (ws:=[514]) (aG hb11 hH11) (by intro w hw;simp at hw;subst hw;decide)) (by decide) (by intro w hw;simp at hw;subst hw;decide) (λj hj=>by simp at hj;omega)) ?_
 rintro _ H12 ⟨L3,⟨k3,hL3,hk3⟩,rfl,e12⟩
 have hL4:L3=[514]:=by
  rw[hL3]
  have:=lJ aw3 [514] (j:=k3) (k:=1) (by rw[show fZ aw3 [514] k3=L3 from hL3.symm];omega) (by rw[nt];simp)
  exact this.trans nt
 subst hL4
 refine⟨2,by rw[show(⟨⟨aw3,aw2.cur⟩,.slice none 0 0,.slice none 0 0,0⟩:Hp).sp.mem=aw3 from rfl,pS],?_⟩
 rw[if_pos rfl]
 have hkl:ks.length=2:=by
  have:=congrArg List.length hks
  simp[picL]at this
  exact this
 match ks,hkl with
 | [k0,k1],_=>
 rw[if_pos (show(([k0,k1].length:Nat):Int)=2 from rfl)]
 have O12:=((O.keep f9 (λj hj h=>by simp at h;have:=hoB j hj;omega) (λj hj h=>by simp at h;have:=hT j hj;omega)).ext (e10.trans (e11.trans e12)))
 have hkey:keyK k1=kJ aw2.mem [514] 514:=by
  simp only[picL,List.map_cons,List.map_nil,List.cons.injEq]at hks
  exact hks.2.1
 have his:k1.is.xs=[-1,0]:=by
  have:=congrArg (λz=>z.2.2.2.2) hkey
  exact this.trans qJ
 obtain⟨-,-,h3,h4,-⟩:=O12.each k1 (by simp)
 have hn2:k1.is.n=2:=by rw[<-h3,his];rfl
 have hcell:([k0,k1].flatMap eM.cells)[9]?=some (.slice k1.is.p k1.is.n k1.is.c):=rfl
 obtain⟨oa,ho1,ho2⟩:=O12.own.at hcell
 have hoa:oa=⟨oa.block,0,none⟩:=by
  have:=O12.own
  rw[ho1]at this
  exact this.1
 have hrd:hat H12 ((oa.add (Int.toNat 1*5)).add 4)=some (.slice k1.is.p k1.is.n k1.is.c):=by
  rw[hoa]at ho2⊢
  rw[addr_add_mk]at ho2
  rw[addr_add_mk,addr_add_mk]
  exact ho2
 rw[his]at h4
 obtain⟨ia,hi1,hi2⟩:=mF h4.src (i:=0) (by simp)
 refine⟨oa,ho1,⟨by decide,by simp⟩,_,_,_,hrd,?_⟩
 rw[hn2,if_pos (show((2:Nat):Int)=2 from rfl)]
 refine⟨⟨by decide,by simp⟩,_,_,_,by rw[hn2]at hrd;exact hrd,ia,hi1,⟨by decide,by decide⟩,-1,by exact hi2,hR _ _ ⟨rfl,?_⟩⟩
 have E8:=E3.trans e38
 exact((E8.fr_trans f9 (λi hi=>by simp at hi;rw[hi];exact hb1 _ (by simp[Blk.all]))).trans e10).trans (e11.trans e12)
