/-
 BuildTells, said of heaps. Proves nothing of any one statement.
-/
import Derived.Test.YtibpklpgmgakcaaGreatDoorTellsG
import Derived.Test.YtibpklpgmgakcaaGreatDoorLx
set_option linter.unusedVariables false
set_option linter.unusedSimpArgs false
set_option maxHeartbeats 1000000
namespace Go.Proofs.YtibpklpgmgakcaaGreatDoor
open Go

theorem seg_Free_c{H:Array Obj}{bm bs:Nat}{m:Mem}(h:MemAt H bm bs m):seg_Mem_Free.C (some ⟨bm,0,none⟩) H (λv H'=>v=.int .i64 m.free/\H=H'):=by
 refine HC.via λR hR=>seg_Mem_Free.link ?_
 unfold seg_Mem_Free.pt
 rw[onPtr_some]
 exact⟨_,by rw[addr_add_mk];exact h.freeAt,hR _ _ ⟨rfl,rfl⟩⟩
theorem Tg.pict{lo:Nat}{X:List Nat}{H:Array Obj}{tB:Option Addr}{tC n:Nat}{ts:List TV}{ths:List (Dt×List Int)}(h:Tg lo X H tB tC n ts ths)(hs:n<=1000)(hr: ∀(i:Nat) (h:i<ths.length),(∀k∈ths[i].2,0<=k/\k<n)/\(ths[i].1.kind=7->ths[i].2.length=2)/\ths[i].2.length<=5):Pict (λj=>j<H.size) H tB n ts ths:=
 ⟨h.tlen,h.hlen,hs,λi hi=>by
  obtain⟨a,ha,_,hr⟩:=h.own.elem (f:=TV.cells) (λ_=>rfl) (by decide) hi
  exact⟨a,ha,hr⟩,λi hi=>h.own.lt i hi,λi h1 h2=>(h.each i h1 h2).dat.keep (S:=[]) (Fr.refl _ _) (by simp) (λj hj=>hj.1.1.2),λi h1 h2=>⟨(h.each i h1 h2).len,(h.each i h1 h2).src,λj hj=>((h.each i h1 h2).blk j hj).1.1.2⟩,λi hi=>(hr i hi).1,λi hi=>(hr i hi).2.1,λi hi=>(hr i hi).2.2⟩
set_option maxRecDepth 100000 in
theorem buildTells_c{H:Array Obj}{s:Sl ItemOf}(T:Tabs8 H)(IT:SlOK 4 itemOfR maxLen H s):
  morainelaw17_BuildTells.C s.p s.n s.c H (λr H'=>r=.bool true/\Ext H H'):=by
 refine HC.via λR hR=>morainelaw17_BuildTells.link ?_
 unfold morainelaw17_BuildTells.pt
 have aw: ∀A,Ext H A->morainelaw17_awake.C A (λv' A'=> ∃q:Bool,v'=.bool q/\R (.bool q) A'):=λA eA=>by
  refine HC.mono (awake17_c (T.ext eA)) ?_
  rintro _ A' ⟨rfl,eA'⟩
  exact⟨true,rfl,hR _ _ ⟨rfl,eA.trans eA'⟩⟩
 by_cases h150:(s.n:Int)>150
 ·rw[if_pos h150];exact aw H (Ext.refl _)
 rw[if_neg h150]
 refine HC.mono (new_heap (n:=64) (by decide)) ?_
 rintro _ H2 ⟨k,x,rfl,N2⟩
 refine⟨_,_,rfl,?_⟩
 rw[if_pos rfl,onPtr_some]
 have hc0:=N2.count
 refine HC.mono (drawn_c N2.live N2.even (by omega) IT (by omega)) ?_
 rintro _ H3 ⟨x3,L3,hor⟩
 rcases hor with rfl | ⟨wB,wC,tB,tC,ws,ts,ths,rfl,D,hl1,hl2⟩
 ·refine⟨_,_,_,_,_,_,_,rfl,?_⟩
  rw[if_neg (by decide)];exact aw H3 L3.ext
 refine⟨_,_,_,_,_,_,_,rfl,?_⟩
 rw[if_pos rfl]
 have hcd:=L3.at'.cd
 have hch:hat H3 ⟨k.h,0,none⟩=some (.pointer (some ⟨k.c,0,none⟩)):=by rw[hat_blk L3.at'.h];rfl
 refine⟨_,hch,_,rfl,_,hcd.cPtr,_,rfl,_,hcd.sp.memPtr,?_⟩
 refine HC.mono (seg_Free_c hcd.sp.mem) ?_
 rintro _ _ ⟨rfl,rfl⟩
 obtain⟨kk,hkk⟩: ∃kk:Int,kk=(ws.length:Int)-1:=⟨_,rfl⟩
 have hkr:0<=kk/\kk<ws.length:=by omega
 have ew:IntKind.wrap .i64 ((ws.length:Int)-1)=kk:=by rw[w64 (by omega),hkk]
 rw[ew]
 obtain⟨pw,hpw,hatw⟩:=wvs_hat D.wown hkr
 refine⟨_,rfl,pw,hpw,hkr,_,hatw,?_⟩
 have hsame:=tells_same (m:=x3.sp.mem) D.tg.hlen D.item 4097 0 kk 0 hkr (by decide)
 refine HC.mono (build_Datum_c L3 (D.watIs hkr)) ?_
 rintro _ H5 ⟨u,rfl,e5,hok,hno⟩
 have hdr:datumR x3.sp.mem (wat ws kk)=readG (viewT ths) 4097 0 kk 0:=hsame.1
 have hgood:=hsame.2
 rw[hdr]at hok hno⊢
 refine⟨_,_,_,_,_,_,_,_,_,_,_,rfl,λb H6 hb hH6=>?_⟩
 obtain⟨s7,p7⟩:=box_new (vs:=u.cells) hb hH6 rfl rfl
 refine⟨s7,λH7 hH7=>?_⟩
 obtain⟨g7,e7⟩:=p7 H7 hH7
 intro b2 H8 hb2 hH8
 have e8:=Ext.push' hH8
 have g8:=push_get hb2 hH8
 have e38:=(e5.trans e7).trans e8
 have hs5:=e5.size
 have hs7:=e7.size
 have hs8:=e8.size
 have hb':b=H5.size:=hb
 have hb2':b2=H7.size:=hb2
 have hH8s:H8.size=H7.size+1:=by rw[hH8];simp
 have hpict:Pict (λj=>j<H3.size) H3 tB ws.length ts ths:=D.tg.pict (by omega) (λi hi=>by
  have:=(D.item i (by rw[<-D.tg.hlen];exact hi) hi).kids
  exact this)
 have hp8:Pict (λj=>j<H3.size) H8 tB ws.length ts ths:=hpict.keep (S:=[]) e38.fr (by simp)
 refine HC.mono (ref_datum_c 4097 hp8 g8 (by omega) (λi hi=>by omega) hkr (by decide) (by decide) (by decide)) ?_
 rintro _ H9 ⟨u9,rfl,f9,hok9,hno9⟩
 have hs9:=f9.size
 refine⟨_,_,_,_,_,_,_,_,_,_,_,rfl,λb3 H10 hb3 hH10=>?_⟩
 obtain⟨s11,p11⟩:=box_new (vs:=u9.cells) hb3 hH10 rfl rfl
 refine⟨s11,λH11 hH11=>?_⟩
 obtain⟨g11,e11⟩:=p11 H11 hH11
 have hs11:=e11.size
 rw[if_pos rfl]
 have f711:Fr [b2] H7 H11:=((e8.fr (S:=[b2])).trans f9).trans e11.fr
 have gb11:=f711.get (b:=b) (by simp;have:=lt_size g7;omega) g7
 have e3_11:Ext H3 H11:=(e38.fr_trans f9 (λi hi=>by simp at hi;omega)).trans e11
 obtain⟨d,hd1,hd2,hdl⟩: ∃d:Dt,DatAt (λ_=>True) H11 u d/\DatAt (λ_=>True) H11 u9 d/\Light d:=by
  by_cases hz:(readG (viewT ths) 4097 0 kk 0).1=0
  ·have h1:=(hok hz).keep (S:=[b2]) ((e7.fr (S:=[b2])).trans f711) (λi hi hp=>by simp at hi;subst hi;have:=hp.2;omega) (λ_ _=>trivial)
   exact⟨_,h1,(hok9 hz).2.keep (S:=[]) e11.fr (by simp) (λ_ _=>trivial),(hgood hz).1.light⟩
  ·exact⟨zD,by rw[hno hz];exact dat_leaf (by decide) (by decide),by rw[hno9 hz];exact dat_leaf (by decide) (by decide),light_k (by decide)⟩
 refine⟨_,_,_,_,_,_,_,_,_,_,box_row (vs:=u.cells) gb11,_,_,_,_,_,_,_,_,_,_,box_row g11,?_⟩
 refine HC.mono (ref03_Same_c d hd1 hd2 hdl) ?_
 rintro _ H12 ⟨rfl,e12⟩
 refine⟨_,rfl,?_⟩
 rw[if_pos rfl]
 have L12:=L3.grow (e3_11.trans e12)
 have hcd2:=L12.at'.cd
 have hch2:hat H12 ⟨k.h,0,none⟩=some (.pointer (some ⟨k.c,0,none⟩)):=by rw[hat_blk L12.at'.h];rfl
 refine⟨_,hch2,_,rfl,_,hcd2.cPtr,_,rfl,_,hcd2.sp.memPtr,?_⟩
 refine HC.mono (seg_Free_c hcd2.sp.mem) ?_
 rintro _ _ ⟨rfl,rfl⟩
 refine⟨_,rfl,?_⟩
 rw[if_pos rfl]
 have eH:Ext H H12:=L12.ext
 by_cases hz:(readG (viewT ths) 4097 0 kk 0).1=0
 case neg=>rw[if_neg hz];exact aw H12 eH
 rw[if_pos hz]
 obtain⟨hg,hcnt⟩:=hgood hz
 have hbd:=readG_bd (viewT ths) (λw e h=>viewT_bad h) 4097 0 kk 0 hz
 have hd:=(hok hz).keep (S:=[b2]) ((e7.fr (S:=[b2])).trans f711) (λi hi hp=>by simp at hi;subst hi;have:=hp.2;omega) (Q:=λ_=>True) (λ_ _=>trivial)
 refine⟨_,_,_,_,_,_,_,_,_,_,box_row (vs:=u.cells) (e12.get gb11),?_⟩
 refine HC.mono (ref03_May_c (hd.ext e12) hg.light (by have:=hbd.2 (by decide);omega)) ?_
 rintro _ H14 ⟨⟨q,rfl,hq⟩,e14⟩
 have hqt:q=true:=hq.2 ⟨hg.plain,by have:=hg.depth;omega⟩
 subst hqt
 refine⟨_,rfl,?_⟩
 rw[if_pos rfl]
 exact aw H14 (eH.trans e14)
end Go.Proofs.YtibpklpgmgakcaaGreatDoor
