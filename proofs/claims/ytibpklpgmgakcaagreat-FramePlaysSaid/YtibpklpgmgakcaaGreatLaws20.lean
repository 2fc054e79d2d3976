/-
 The walk of 'awake' of morainelaw20.
-/
import Derived.Test.YtibpklpgmgakcaaGreatLiveF
import Derived.Test.YtibpklpgmgakcaaGreatL20awake
set_option linter.unusedVariables false
set_option linter.unusedSimpArgs false
namespace Go.Proofs.YtibpklpgmgakcaaGreat
open Go

theorem awake20_c{H:Array Obj}:morainelaw20_awake.C H (λv H'=>v=.bool true/\Ext H H'):=by
 refine HC.via λR hR=>morainelaw20_awake.link ?_
 unfold morainelaw20_awake.pt
 refine HC.mono (obj_New_c (by decide)) ?_
 rintro _ H1 (⟨hn,_⟩ | ⟨_,b,x,rfl,V1,hx,e1,hy⟩)
 ·exact absurd (by decide) hn
 refine⟨_,_,rfl,?_⟩
 rw[if_pos rfl,onPtr_some]
 have L1:Live H H1 b x:=⟨V1.inv.2.1,V1.inv.2.2,e1,hy⟩
 have f1:x.sp.mem.free=8:=by subst hx;rfl
 have c1:x.sp.mem.count=0:=by subst hx;rfl
 clear hx V1
 intro b2 H2 hb2 hH2
 refine HC.mono (live_Extend (ws:=[8,16]) (L1.grow (Ext.push' hH2)) (by decide) (.inl rfl) (rowAt_blk (push_get hb2 hH2) _ 0 0 (λj hj=>by simp)) rfl (by decide) (by decide) (by omega) (by omega)) ?_
 rintro _ H3 ⟨wa,xa,rfl,L3,ma,_⟩
 refine⟨_,_,rfl,?_⟩
 have f3:=ma.made.free
 have c3:=ma.made.count
 intro b4 H4 hb4 hH4
 refine HC.mono (live_Extend (ws:=[24]) (L3.grow (Ext.push' hH4)) ma.thing.word (.inr ma.thing.typ) (rowAt_blk (push_get hb4 hH4) _ 0 0 (λj hj=>by simp)) rfl (by decide) (by decide) (by omega) (by omega)) ?_
 rintro _ H5 ⟨wb,xb,rfl,L5,mb,_⟩
 refine⟨_,_,rfl,?_⟩
 have f5:=mb.made.free
 have c5:=mb.made.count
 have ta:=ma.thing.keep L3.n64 mb.made.keep
 have tb:=mb.thing
 have ab1:xb.sp.mem.above wb 1=(wa,0):=by
  unfold Mem.above;rw[if_neg (by decide)];show xb.sp.mem.aboveN (0+1) wb=_
  rw[tb.aboveS,ta.above0]
 have ab2:xb.sp.mem.above wb 2=(0,3):=by
  unfold Mem.above;rw[if_neg (by decide)];show xb.sp.mem.aboveN (1+1) wb=_
  rw[tb.aboveS];show xb.sp.mem.aboveN (0+1) wa=_
  rw[ta.aboveS,above_nil]
 obtain⟨g1,g2⟩:=ta.envIn ab1 (i:=1) (by decide)
 refine HC.mono (frame_Get_c L5.view tb.word (by decide) (by decide)) ?_
 rintro _ H6 ⟨rfl,e6⟩
 refine⟨_,_,rfl,?_⟩
 have hm5:mof (some (b,xb))=xb.sp.mem:=rfl
 rw[hm5,if_pos g1,g1,g2]
 have L6:=L5.grow e6
 refine HC.mono (frame_Get_c L6.view tb.word (by decide) (by decide)) ?_
 rintro _ H7 ⟨rfl,e7⟩
 refine⟨_,_,rfl,?_⟩
 have g3:xb.sp.mem.envE wb 2 0=3:=by unfold Mem.envE;rw[ab2,if_pos (by decide)]
 rw[hm5,g3]
 have L7:=L6.grow e7
 intro b8 H8 hb8 hH8
 refine HC.mono (live_Push (ws:=[8]) (L7.grow (Ext.push' hH8)) (by decide) (by decide) (.inl rfl) (rowAt_blk (push_get hb8 hH8) _ 0 0 (λj hj=>by simp)) rfl (by decide) (by decide) (by omega) (by omega)) ?_
 rintro _ H9 ⟨wp,xp,rfl,L9,mp,_⟩
 refine⟨_,_,rfl,?_⟩
 have f9:=mp.made.free
 have c9:=mp.made.count
 refine HC.mono (live_Push (ws:=[]) L9 (by decide) mp.thing.word (.inr mp.thing.typ) rfl rfl (by simp) (by decide) (by omega) (by omega)) ?_
 rintro _ H10 ⟨wq,xq,rfl,L10,mq,_⟩
 refine⟨_,_,rfl,?_⟩
 have hm10:mof (some (b,xq))=xq.sp.mem:=rfl
 have ta10:=(ta.keep L5.n64 mp.made.keep).keep L9.n64 mq.made.keep
 refine HC.mono (frame_Kind_c L10.view mq.thing.word) ?_
 rintro _ H11 ⟨rfl,e11⟩
 refine⟨_,_,rfl,?_⟩
 rw[hm10,mq.thing.frameKind (by decide)]
 have L11:=L10.grow e11
 refine HC.mono (frame_Next_c L11.view mq.thing.word) ?_
 rintro _ H12 ⟨rfl,e12⟩
 refine⟨_,_,rfl,?_⟩
 rw[hm10,mq.thing.frameNext]
 have L12:=L11.grow e12
 have c10:=mq.made.count
 refine HC.mono (frame_Push_c (ws:=[]) L12.view (by decide) ta10.word rfl rfl (by simp) (show xq.sp.mem.count<_ by omega) (by decide)) ?_
 rintro _ H13 ⟨rfl,V13,fr13⟩
 have hne:wa≠20:=λe=>by have:=ta10.obj.1.2.1;rw[e]at this;exact absurd this (by decide)
 have e1:pushR (some (b,xq)) 0 wa []=(0,3):=by
  unfold pushR;rw[if_neg (by decide),hm10,if_pos ⟨hne,by rw[ta10.typ];decide⟩]
 have e2:pushO (some (b,xq)) 0 wa []=some (b,xq):=by
  unfold pushO;rw[if_neg (by decide),hm10,if_pos ⟨hne,by rw[ta10.typ];decide⟩]
 rw[e2]at V13
 have L13:=L12.step V13 fr13
 refine⟨_,_,rfl,?_⟩
 rw[e1,if_pos rfl,if_pos (by rfl),if_pos rfl,if_pos rfl,if_pos rfl,if_pos rfl,if_pos rfl,if_pos rfl,if_pos rfl,if_pos rfl]
 refine HC.mono (frame_Count_c L13.view ta10.word) ?_
 rintro _ H14 ⟨rfl,e14⟩
 refine⟨_,rfl,hR _ _ ⟨?_,L13.ext.trans e14⟩⟩
 rw[hm10,ta10.count'];rfl
end Go.Proofs.YtibpklpgmgakcaaGreat
