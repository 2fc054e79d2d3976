/-
 Laws against the document: alike in the end; the law's own contract. Proves nothing of any one statement.
-/
import Derived.Test.YtibpklpgmgakcaaGreatPlays20c
import Derived.Test.YtibpklpgmgakcaaGreatLaws20
import Derived.Test.YtibpklpgmgakcaaGreatL20FramePlays
set_option linter.unusedVariables false
set_option linter.unusedSimpArgs false
namespace Go.Proofs.YtibpklpgmgakcaaGreat
open Go

set_option maxRecDepth 100000 in
theorem alike_c{H0 H:Array Obj}{k:Blk}{x:Hp}{q:RB}{r:RM}(B:Both H0 H k x q r):
  morainelaw11_Alike.C (some ⟨k.h,0,none⟩) (some ⟨q.h,0,none⟩) H (λv H'=>v=.bool true/\Ext H H'):=by
 refine HC.via λR hR=>morainelaw11_Alike.link ?_
 unfold morainelaw11_Alike.pt
 have ok:=B.live.ok.mem
 have row1: ∀{A:Array Obj} {a:Addr} {v:Value},hat A a=some v->RowAt A a 0 [v]:=λh=>⟨by rw[addr_z];exact h,trivial⟩
 have h:=B.live.at'
 have d:=B.doc
 refine⟨_,rfl,_,h.hPtr,_,rfl,_,h.cd.cPtr,_,rfl,_,h.cd.sp.memPtr,_,rfl,_,d.hPtr,_,rfl,_,d.cd.cPtr,_,rfl,_,d.cd.sp.mPtr,?_⟩
 refine HC.mono (seg_Taken_c (gs:=[]) h.cd.sp.mem ok rfl rfl (by decide)) ?_
 rintro _ H1 ⟨B1,c1,l,rfl,hT,how1,hnew1,e1⟩
 have hl:=d.cd.sp.mem.takenEq ok hT
 have hfree:=d.cd.sp.mem.freeEq ok hT
 subst hl
 have d1:=d.ext e1
 refine⟨_,_,_,rfl,row1 d1.hPtr,row1 d1.cd.cPtr,row1 d1.cd.sp.mPtr,?_⟩
 refine HC.mono (ref07_Taken_c d1.cd.sp.mem ok) ?_
 rintro _ H2 ⟨B2,c2,rfl,how2,hnew2,e2⟩
 refine⟨_,_,_,rfl,?_⟩
 rw[if_pos rfl]
 have e02:=e1.trans e2
 have h2:=h.ext e02
 have d2:=d.ext e02
 have ep2:hat H2 ((Addr.mk q.h 0 none).add 1)=some (.int .u64 x.ep):=by rw[addr_add_mk,hat_blk d2.h];rfl
 refine⟨_,h2.hPtr,_,rfl,_,h2.cd.cPtr,_,rfl,_,h2.cd.sp.memPtr,_,d2.hPtr,_,rfl,_,d2.cd.cPtr,_,rfl,_,d2.cd.sp.mPtr,_,rfl,_,d2.cd.sp.mem.limAt,_,ep2,?_⟩
 have rows:RowAt H2 (Addr.mk q.h 0 none) 0 [.pointer (some ⟨q.c,0,none⟩)]/\RowAt H2 (Addr.mk q.c 0 none) 0 [.pointer (some ⟨q.sp,0,none⟩)]/\RowAt H2 (Addr.mk q.sp 0 none) 0 [.pointer (some ⟨r.bm,0,none⟩)]/\RowAt H2 (Addr.mk r.bm 0 none) 0 [.int .i64 x.sp.mem.limit]/\RowAt H2 ((Addr.mk q.h 0 none).add 1) 0 [.int .u64 x.ep]:=
  ⟨row1 d2.hPtr,row1 d2.cd.cPtr,row1 d2.cd.sp.mPtr,row1 d2.cd.sp.mem.limAt,row1 ep2⟩
 obtain⟨w1,w2,w3,w4,w5⟩:=rows
 have how1':=how1.ext e2
 have B2':=B.grow e02
 have hlen:=d.cd.sp.mem.len ok
 have hlim:=ok.lim
 refine HC.mono (seg_Free20_c h2.cd.sp.mem) ?_
 rintro _ H3 ⟨rfl,hH3⟩
 subst hH3
 refine⟨_,rfl,w1,w2,w3,w4,w5,?_⟩
 rw[w64 (by omega),if_pos hfree]
 refine HC.mono (obj_Epoch20_c B2'.live.view) ?_
 rintro _ H4 ⟨rfl,hH4⟩
 subst hH4
 refine⟨_,rfl,w1,w2,w3,w4,w5,?_⟩
 rw[if_pos rfl]
 refine⟨λi A=> ∃j:Nat,i=j/\j<=r.L.length/\Ext H4 A,λi _=>(r.L.length-i).toNat,⟨0,rfl,Nat.zero_le _,Ext.refl _⟩,?_⟩
 rintro i H5 ⟨j,rfl,hj,e5⟩
 by_cases hlt:(j:Int)< (r.L.length:Int)
 case neg=>rw[if_neg hlt];exact hR _ _ ⟨rfl,e02.trans e5⟩
 rw[if_pos hlt]
 have hjl:j<r.L.length:=by omega
 have B5:=B2'.grow e5
 have h5:=B5.live.at'
 obtain⟨a1,ha1,hat1⟩:=ivs_at (how1'.ext e5) hjl
 obtain⟨a2,ha2,hat2⟩:=ivs_at (how2.ext e5) hjl
 have hkL:r.L[j]∈r.L:=List.getElem_mem hjl
 have hhas:x.sp.mem.has (r.L[j]:Int):=d.cd.sp.mem.has.2 ⟨by omega,by rw[Int.toNat_natCast];exact hkL⟩
 have hnext: ∀H11,Ext H5 H11->(∃j':Nat,IntKind.wrap .i64 ((j:Int)+1)=j'/\j'<=r.L.length/\Ext H4 H11)/\((r.L.length:Int)-IntKind.wrap .i64 ((j:Int)+1)).toNat< ((r.L.length:Int)-j).toNat:=λH11 e=>by
  rw[w64 (n:=(j:Int)+1) (by omega)]
  exact⟨⟨j+1,by omega,by omega,e5.trans e⟩,by omega⟩
 refine⟨_,h5.hPtr,_,rfl,_,h5.cd.cPtr,_,rfl,_,h5.cd.sp.memPtr,a1,ha1,⟨by omega,hlt⟩,_,by rw[Int.toNat_natCast];exact hat1,?_,?_⟩
 ·refine HC.mono (seg_Seg_c h5.cd.sp.mem) ?_
  rintro _ H6 ⟨rfl,e6⟩
  rw[if_pos hhas,decide_eq_true hhas,Int.toNat_natCast r.L[j]]
  refine⟨_,_,_,_,_,_,_,_,rfl,?_⟩
  intro b H7 hb hH7
  obtain⟨p1,p2⟩:=box_new (vs:=[.int .i64 (x.sp.mem.seg r.L[j]).gen,.int .i64 (x.sp.mem.seg r.L[j]).kind,.int .i64 (x.sp.mem.seg r.L[j]).n,.int .i64 ((x.sp.mem.seg r.L[j]).cards 0),.int .i64 ((x.sp.mem.seg r.L[j]).cards 1),.int .i64 ((x.sp.mem.seg r.L[j]).cards 2),.int .i64 ((x.sp.mem.seg r.L[j]).cards 3)]) hb hH7 rfl rfl
  refine⟨p1,λH8 hH8=>?_⟩
  obtain⟨g8,e8⟩:=p2 H8 hH8
  have e58:=e6.trans e8
  refine alike_rest (I17:=λi A=> ∃j:Nat,i=j/\j<=r.L.length/\Ext H4 A) (m17:=λi _=>((r.L.length:Int)-i).toNat) (H5:=H5) (B5.grow e58) rfl hjl rfl rfl g8 (e58.hat hat1) ⟨a2,ha2,e58.hat hat2⟩ ?_
  intro H11 e
  exact hnext H11 (e58.trans e)
 ·intro b H13 hb hH13
  have e13:Ext H5 H13:=Ext.push' hH13
  have h13:=h5.ext e13
  refine⟨row1 h13.hPtr,row1 h13.cd.cPtr,row1 h13.cd.sp.memPtr,row1 (by rw[Int.toNat_natCast];exact e13.hat hat1),?_⟩
  refine HC.mono (seg_Seg_c h13.cd.sp.mem) ?_
  rintro _ H14 ⟨rfl,e14⟩
  rw[if_pos hhas,decide_eq_true hhas,Int.toNat_natCast r.L[j]]
  refine⟨_,_,_,_,_,_,_,_,rfl,?_⟩
  obtain⟨p1,p2⟩:=box_set (vs:=[.int .i64 (x.sp.mem.seg r.L[j]).gen,.int .i64 (x.sp.mem.seg r.L[j]).kind,.int .i64 (x.sp.mem.seg r.L[j]).n,.int .i64 ((x.sp.mem.seg r.L[j]).cards 0),.int .i64 ((x.sp.mem.seg r.L[j]).cards 1),.int .i64 ((x.sp.mem.seg r.L[j]).cards 2),.int .i64 ((x.sp.mem.seg r.L[j]).cards 3)]) (e14.get (push_get hb hH13)) rfl rfl
  refine⟨p1,λH15 hH15=>?_⟩
  obtain⟨g15,f15⟩:=p2 H15 hH15
  have e515:Ext H5 H15:=(e13.trans e14).fr_trans f15 (λz hz=>by simp at hz;omega)
  refine alike_rest (I17:=λi A=> ∃j:Nat,i=j/\j<=r.L.length/\Ext H4 A) (m17:=λi _=>((r.L.length:Int)-i).toNat) (H5:=H5) (B5.grow e515) rfl hjl rfl rfl g15 (e515.hat hat1) ⟨a2,ha2,e515.hat hat2⟩ ?_
  intro H11 e
  exact hnext H11 (e515.trans e)
end Go.Proofs.YtibpklpgmgakcaaGreat
