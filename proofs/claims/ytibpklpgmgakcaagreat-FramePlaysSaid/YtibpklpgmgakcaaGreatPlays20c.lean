/-
 Laws against the document: both heaps are alike in the end. Proves nothing of any one statement.
-/
import Derived.Test.YtibpklpgmgakcaaGreatPlays20b
import Derived.Test.YtibpklpgmgakcaaGreatTaken
import Derived.Test.YtibpklpgmgakcaaGreatWords
import Derived.Test.YtibpklpgmgakcaaGreatFobjx
import Derived.Test.YtibpklpgmgakcaaGreatL11Alike
set_option linter.unusedVariables false
set_option linter.unusedSimpArgs false
namespace Go.Proofs.YtibpklpgmgakcaaGreat
open Go

theorem seg_Free20_c{H:Array Obj}{bm bs:Nat}{m:Mem}(h:MemAt H bm bs m):seg_Mem_Free.C (some ⟨bm,0,none⟩) H (λv H'=>v=.int .i64 m.free/\H'=H):=by
 refine HC.via λR hR=>seg_Mem_Free.link ?_
 unfold seg_Mem_Free.pt
 rw[onPtr_some,addr_add_mk]
 exact⟨_,h.freeAt,hR _ _ ⟨rfl,rfl⟩⟩
theorem obj_Epoch20_c{H:Array Obj}{b:Blk}{x:Hp}(V:View H (some ⟨b.h,0,none⟩) (some (b,x))):obj_Heap_Epoch.C (some ⟨b.h,0,none⟩) H (λv H'=>v=.int .u64 x.ep/\H'=H):=by
 refine HC.via λR hR=>obj_Heap_Epoch.link ?_
 unfold obj_Heap_Epoch.pt
 refine HC.mono (obj_none_c V) ?_
 rintro _ H1 ⟨rfl,rfl⟩
 refine⟨_,rfl,?_⟩
 rw[if_neg (show¬(some (b,x)).isNone=true from Bool.false_ne_true)]
 obtain⟨_,h,_⟩:=V.inv
 exact⟨_,rfl,x.ep,by rw[addr_add_mk,hat_blk h.h];rfl,hR _ _ ⟨rfl,rfl⟩⟩
theorem sorted_eq{t:Nat->Int}: ∀{l l':List Nat},l.Nodup->l.Pairwise (λi j=>t i<=t j)->l'.Pairwise (λi j=>t i<t j)->(∀x,x∈l ↔ x∈l')->l=l'
 | [],[],_,_,_,_=>rfl
 | [],b::l',_,_,_,h=>absurd ((h b).2 (List.mem_cons_self ..)) (by simp)
 | a::l,[],_,_,_,h=>absurd ((h a).1 (List.mem_cons_self ..)) (by simp)
 | a::l,b::l',hn,h1,h2,h=>by
  obtain⟨na,nl⟩:=List.nodup_cons.1 hn
  obtain⟨ha,hl⟩:=List.pairwise_cons.1 h1
  obtain⟨hb,hl'⟩:=List.pairwise_cons.1 h2
  have e:a=b:=by
   by_cases e:a=b
   ·exact e
   ·have m1:b∈l:=(List.mem_cons.1 ((h b).2 (List.mem_cons_self ..))).resolve_left (λq=>e q.symm)
    have m2:a∈l':=(List.mem_cons.1 ((h a).1 (List.mem_cons_self ..))).resolve_left e
    have:=ha b m1;have:=hb a m2;omega
  subst e
  congr 1
  refine sorted_eq nl hl hl' λx=>⟨λhx=>?_,λhx=>?_⟩
  ·exact(List.mem_cons.1 ((h x).1 (List.mem_cons_of_mem _ hx))).resolve_left (λq=>na (q▸hx))
  ·exact(List.mem_cons.1 ((h x).2 (List.mem_cons_of_mem _ hx))).resolve_left (λq=>by have:=hb x hx;rw[q]at this;omega)
theorem RMAt.takenEq{H:Array Obj}{r:RM}{m:Mem}(h:RMAt H r m)(ok:MemOK m){l:List Nat}(ht:IsTaken m [] l):l=r.L:=by
 have hmem: ∀x,x∈m.takenTo [] m.limit ↔ x∈r.L:=λx=>by
  rw[h.taken x]
  unfold Mem.takenTo
  rw[List.mem_filter,List.mem_range]
  have:=(ok.seg x).taken
  simp
  intro _;omega
 refine sorted_eq (t:=λi=>(m.seg i).taken) (ht.perm.nodup_iff.2 ?_) ht.sorted h.order λx=>by rw[ht.perm.mem_iff];exact hmem x
 unfold Mem.takenTo
 exact List.nodup_range.filter _
theorem RMAt.freeEq{H:Array Obj}{r:RM}{m:Mem}(h:RMAt H r m)(ok:MemOK m){l:List Nat}(ht:IsTaken m [] l):m.free=m.limit-r.L.length:=by
 have e:=h.takenEq ok ht
 rw[<-e,ht.perm.length_eq,ok.free]
 unfold Mem.nfree Mem.takenTo
 rw[<-List.countP_eq_length_filter]
 have h1:=List.length_eq_countP_add_countP (λk=>(m.seg k).taken==0) (l:=List.range m.limit)
 rw[List.length_range]at h1
 have h2:List.countP (λa=>decide ¬((m.seg a).taken==0)=true) (List.range m.limit)=List.countP (λi=>decide (0< (m.seg i).taken) && (([]:List Int).isEmpty || decide ((m.seg i).gen∈([]:List Int)))) (List.range m.limit):=by
  congr 1
  funext a
  have:=(ok.seg a).taken
  by_cases hz:(m.seg a).taken=0
  ·simp[hz]
  ·simp[hz];omega
 omega
theorem ref07_Taken_c{H:Array Obj}{r:RM}{m:Mem}(h:RMAt H r m)(ok:MemOK m):
  moraineref07_Mem_Taken.C (some ⟨r.bm,0,none⟩) none 0 0 H (λv H'=> ∃B c,v=.slice B r.L.length c/\Own H' 3 1 B r.L.length c (ivs (r.L.map λi:Nat=>(i:Int)))/\(∀i∈blks B,H.size<=i)/\Ext H H'):=by
 refine HC.via λR hR=>moraineref07_Mem_Taken.link ?_
 unfold moraineref07_Mem_Taken.pt
 have hl:=h.len ok
 refine⟨λB n c i A=> ∃j:Nat,i=j/\j<=r.L.length/\n=j/\Own A 3 1 B n c (ivs ((r.L.take j).map λi:Nat=>(i:Int)))/\(∀q∈blks B,H.size<=q)/\Ext H A,λ_ _ _ i _=>(r.L.length-i).toNat,⟨0,rfl,Nat.zero_le _,rfl,own_nil,by simp,Ext.refl _⟩,?_⟩
 rintro B n c i A ⟨j,rfl,hj,rfl,how,hB,eA⟩
 have hA:=h.ext eA
 refine⟨_,rfl,_,_,_,hA.slAt,?_⟩
 by_cases hlt:(n:Int)< (r.L.length:Int)
 case neg=>
  rw[if_neg hlt]
  have:n=r.L.length:=by omega
  subst this
  rw[List.take_length]at how
  exact hR _ _ ⟨B,c,rfl,how,hB,eA⟩
 rw[if_pos hlt]
 have hlt':n<r.L.length:=by omega
 refine⟨λbv k A'=>bv=true/\k=0/\A'=A,λ_ _ _=>0,⟨rfl,rfl,rfl⟩,?_⟩
 rintro bv k A' ⟨rfl,rfl,rfl⟩
 rw[if_neg (by decide),if_pos rfl]
 obtain⟨a,ha,_,_,_,hat',_⟩:=hA.row (List.getElem?_eq_getElem hlt')
 have h0:=hat' 0 _ rfl
 rw[addr_z]at h0
 refine⟨_,_,_,hA.slAt,a,ha,⟨by omega,hlt⟩,_,by rw[Int.toNat_natCast];exact h0,?_⟩
 intro b A3 hb hA3
 have e3:Ext A' A3:=Ext.push' hA3
 have hs:=eA.size
 refine own_append (ys:=ivs [(r.L[n]:Int)]) (how.ext e3) (rowAt_blk (push_get hb hA3) _ 0 0 (λq hq=>by simp[ivs])) (by simp[ivs]) (allOne_ivs _) rfl (by omega) ?_
 intro B' c' A4 ho f hn
 have e4:Ext H A4:=(eA.trans e3).fr_trans f hB
 rw[w64 (n:=(n:Int)+1) (by omega)]
 refine⟨⟨n+1,by omega,by omega,rfl,?_,λq hq=>?_,e4⟩,by show((r.L.length:Int)-((n:Int)+1)).toNat< ((r.L.length:Int)-(n:Int)).toNat;omega⟩
 ·rw[List.take_succ_eq_append_getElem hlt',List.map_append]
  have:ivs (List.map (λi:Nat=>(i:Int)) (r.L.take n)++List.map (λi:Nat=>(i:Int)) [r.L[n]])=ivs ((r.L.take n).map λi:Nat=>(i:Int))++ivs [(r.L[n]:Int)]:=by simp[ivs]
  rw[this];exact ho
 ·rcases hn q hq with h1 | h1
  ·exact hB q h1
  ·have:=e3.size;omega

theorem alike_rest{H0 H5 H8:Array Obj}{k:Blk}{x:Hp}{q:RB}{r:RM}{R:Value->Array Obj->Prop}{I17:Int->Array Obj->Prop}{m17:Int->Array Obj->Nat}(B:Both H0 H8 k x q r){b:Nat}{xBA:Addr}{B2:Option Addr}{N1 N2 j:Nat}{i:Int}(hi:i=j)(hj:j<r.L.length)(h1:N1=r.L.length)(h2:N2=r.L.length)
  (g8:H8[b]?=some (.cells #[.int .i64 (x.sp.mem.seg r.L[j]).gen,.int .i64 (x.sp.mem.seg r.L[j]).kind,.int .i64 (x.sp.mem.seg r.L[j]).n,.int .i64 ((x.sp.mem.seg r.L[j]).cards 0),.int .i64 ((x.sp.mem.seg r.L[j]).cards 1),.int .i64 ((x.sp.mem.seg r.L[j]).cards 2),.int .i64 ((x.sp.mem.seg r.L[j]).cards 3)] 92 (0,0)))
  (hB1:hat H8 (xBA.add (j*1))=some (.int .i64 (r.L[j]:Int))) (hB2: ∃a,B2=some a/\hat H8 (a.add (j*1))=some (.int .i64 (r.L[j]:Int)))
  (hI: ∀H11,Ext H8 H11->I17 (IntKind.wrap .i64 (i+1)) H11/\m17 (IntKind.wrap .i64 (i+1)) H11<m17 i H5):
   ∃x_21:Option Addr,hat H8 (Addr.mk q.h 0 none)=some (.pointer x_21)/\
   ∃x21A:Addr,x_21=some x21A/\
   ∃x_22:Option Addr,hat H8 x21A=some (.pointer x_22)/\
   ∃x22A:Addr,x_22=some x22A/\
   ∃x_23:Option Addr,hat H8 x22A=some (.pointer x_23)/\
   ∃x23A:Addr,x_23=some x23A/\
   ∃xB_3:Option Addr,∃xN_3:Nat,∃xC_3:Nat,hat H8 (x23A.add 1)=some (.slice xB_3 xN_3 xC_3)/\
   ∃xB3A:Addr,xB_3=some xB3A/\
   ((0:Int)<=i/\i< (xN_3:Int))/\
   ∃xNo:Int,∃xSGen:Int,∃xSKind:Int,∃xSN:Int,∃xSCardsi0:Int,∃xSCardsi1:Int,∃xSCardsi2:Int,∃xSCardsi3:Int,∃xWordsB:Option Addr,∃xWordsN:Nat,∃xWordsC:Nat,RowAt H8 (xB3A.add (Int.toNat i*9)) 0 [.int .i64 xNo,.int .i64 xSGen,.int .i64 xSKind,.int .i64 xSN,.int .i64 xSCardsi0,.int .i64 xSCardsi1,.int .i64 xSCardsi2,.int .i64 xSCardsi3,.slice xWordsB xWordsN xWordsC]/\
   ∀(b_2:Nat) (H9:Array Obj),b_2=H8.size->H9=H8.push (.cells #[.int .i64 0,.int .i64 0,.int .i64 0,.int .i64 0,.int .i64 0,.int .i64 0,.int .i64 0,.int .i64 0,.slice none 0 0] 96)->
   (CanPuts H9 (Addr.mk b_2 0 none) 0 9)/\ ∀H10:Array Obj,H10=hputs H9 (Addr.mk b_2 0 none) [.int .i64 xNo,.int .i64 xSGen,.int .i64 xSKind,.int .i64 xSN,.int .i64 xSCardsi0,.int .i64 xSCardsi1,.int .i64 xSCardsi2,.int .i64 xSCardsi3,.slice xWordsB xWordsN xWordsC] 0->
   ((0:Int)<=i/\i< (N1:Int))/\
   ∃x_24:Int,hat H10 (xBA.add (Int.toNat i*1))=some (.int .i64 x_24)/\
   ∃xB2A:Addr,B2=some xB2A/\
   ((0:Int)<=i/\i< (N2:Int))/\
   ∃x_25:Int,hat H10 (xB2A.add (Int.toNat i*1))=some (.int .i64 x_25)/\
   if x_24=x_25 then(
   if true=true then(
   ∃xGen:Int,∃xKind:Int,∃xN_4:Int,∃xCardsi0:Int,∃xCardsi1:Int,∃xCardsi2:Int,∃xCardsi3:Int,RowAt H10 (Addr.mk b 0 none) 0 [.int .i64 xGen,.int .i64 xKind,.int .i64 xN_4,.int .i64 xCardsi0,.int .i64 xCardsi1,.int .i64 xCardsi2,.int .i64 xCardsi3]/\
   ∃xGen_2:Int,∃xKind_2:Int,∃xN_5:Int,∃xCardsi0x2:Int,∃xCardsi1x2:Int,∃xCardsi2x2:Int,∃xCardsi3x2:Int,RowAt H10 ((Addr.mk b_2 0 none).add 1) 0 [.int .i64 xGen_2,.int .i64 xKind_2,.int .i64 xN_5,.int .i64 xCardsi0x2,.int .i64 xCardsi1x2,.int .i64 xCardsi2x2,.int .i64 xCardsi3x2]/\
   (True)/\
   if xGen=xGen_2/\xKind=xKind_2/\xN_4=xN_5/\xCardsi0=xCardsi0x2/\xCardsi1=xCardsi1x2/\xCardsi2=xCardsi2x2/\xCardsi3=xCardsi3x2 then(
   ∃(I40:Int->Array Obj->Prop) (m40:Int->Array Obj->Nat),I40 0 H10/\ ∀(a:Int) (H11:Array Obj),I40 a H11->
   ∃x_26:Int,hat H11 ((Addr.mk b 0 none).add 2)=some (.int .i64 x_26)/\
   if a<x_26 then(
   ∃x_27:Option Addr,hat H11 (Addr.mk k.h 0 none)=some (.pointer x_27)/\
   ∃x27A:Addr,x_27=some x27A/\
   ∃x_28:Option Addr,hat H11 x27A=some (.pointer x_28)/\
   ∃x28A:Addr,x_28=some x28A/\
   ∃x_29:Option Addr,hat H11 x28A=some (.pointer x_29)/\
   ((0:Int)<=i/\i< (N1:Int))/\
   ∃x_30:Int,hat H11 (xBA.add (Int.toNat i*1))=some (.int .i64 x_30)/\
   seg_Mem_Read.C x_29 (IntKind.wrap .i64 ((IntKind.wrap .i64 (64*x_30))+a)) H11 (λv_6 H12=> ∃ra:Int,∃rb_2:Int,v_6=.tuple #[.int .u64 ra,.int .i64 rb_2]/\
   if rb_2=0 then(
   ∃xB_4:Option Addr,∃xN_6:Nat,∃xC_4:Nat,hat H12 ((Addr.mk b_2 0 none).add 8)=some (.slice xB_4 xN_6 xC_4)/\
   ∃xB4A:Addr,xB_4=some xB4A/\
   ((0:Int)<=a/\a< (xN_6:Int))/\
   ∃x_31:Int,hat H12 (xB4A.add (Int.toNat a*1))=some (.int .u64 x_31)/\
   if ra=x_31 then(
   (I40 (IntKind.wrap .i64 (a+1)) H12/\m40 (IntKind.wrap .i64 (a+1)) H12<m40 a H11))
   else
   R (.bool false) H12)
   else
   R (.bool false) H12))
   else
   (I17 (IntKind.wrap .i64 (i+1)) H11/\m17 (IntKind.wrap .i64 (i+1)) H11<m17 i H5))
   else
   R (.bool false) H10)
   else
   R (.bool false) H10)
   else
   R (.bool false) H10:=by
 subst hi
 subst h1
 subst h2
 have ok:=B.live.ok.mem
 have hd:=B.doc
 have hm:=hd.cd.sp.mem
 have hget:r.L[j]?=some r.L[j]:=List.getElem?_eq_getElem hj
 obtain⟨a,ha,_,_,hkL,hat',hrow⟩:=hm.row hget
 have hlen:=hm.len ok
 have hhas:x.sp.mem.has (r.L[j]:Int):=hm.has.2 ⟨by omega,by rw[Int.toNat_natCast];exact hkL⟩
 have hlim:=ok.lim
 have hk:=hhas.2.1
 generalize r.L[j]=no at*
 refine⟨_,hd.hPtr,_,rfl,_,hd.cd.cPtr,_,rfl,_,hd.cd.sp.mPtr,_,rfl,_,_,_,hm.slAt,a,ha,⟨by omega,by omega⟩,?_⟩
 rw[Int.toNat_natCast]
 unfold RM.row refRow at hrow
 refine⟨_,_,_,_,_,_,_,_,_,_,_,hrow,?_⟩
 intro b2 H9 hb2 hH9
 obtain⟨p1,p2⟩:=box_new (vs:=[.int .i64 no,.int .i64 (x.sp.mem.seg no).gen,.int .i64 (x.sp.mem.seg no).kind,.int .i64 (x.sp.mem.seg no).n,.int .i64 ((x.sp.mem.seg no).cards 0),.int .i64 ((x.sp.mem.seg no).cards 1),.int .i64 ((x.sp.mem.seg no).cards 2),.int .i64 ((x.sp.mem.seg no).cards 3),.slice (r.wp no) (x.sp.mem.seg no).n.toNat (r.wc no)]) hb2 hH9 rfl rfl
 refine⟨p1,λH10 hH10=>?_⟩
 obtain⟨g10,e10⟩:=p2 H10 hH10
 have g8':=e10.get g8
 obtain⟨B2A,hB2A,hB2at⟩:=hB2
 refine⟨⟨by omega,by omega⟩,_,e10.hat hB1,B2A,hB2A,⟨by omega,by omega⟩,_,e10.hat hB2at,?_⟩
 rw[if_pos rfl,if_pos rfl]
 refine⟨_,_,_,_,_,_,_,box_row g8',_,_,_,_,_,_,_,(box_row g10).sub (us:=[.int .i64 (x.sp.mem.seg no).gen,.int .i64 (x.sp.mem.seg no).kind,.int .i64 (x.sp.mem.seg no).n,.int .i64 ((x.sp.mem.seg no).cards 0),.int .i64 ((x.sp.mem.seg no).cards 1),.int .i64 ((x.sp.mem.seg no).cards 2),.int .i64 ((x.sp.mem.seg no).cards 3)]) 1 rfl,trivial,?_⟩
 rw[if_pos ⟨rfl,rfl,rfl,rfl,rfl,rfl,rfl⟩]
 have hn:=(ok.seg no).n
 refine⟨λc A=>(0<=c/\c<=(x.sp.mem.seg no).n)/\Ext H10 A,λc _=>((x.sp.mem.seg no).n-c).toNat,⟨by omega,Ext.refl _⟩,?_⟩
 rintro c H11 ⟨hc,e11⟩
 have e811:=e10.trans e11
 have L11:=B.live.grow e811
 refine⟨(x.sp.mem.seg no).n,by rw[box_get (e11.get g8')];rfl,?_⟩
 by_cases hlt:c< (x.sp.mem.seg no).n
 case neg=>rw[if_neg hlt];exact hI _ e811
 rw[if_pos hlt]
 refine⟨_,L11.at'.hPtr,_,rfl,_,L11.at'.cd.cPtr,_,rfl,_,L11.at'.cd.sp.memPtr,⟨by omega,by omega⟩,_,e811.hat hB1,?_⟩
 rw[w64 (n:=64*(no:Int)) (by omega),w64 (n:=64*(no:Int)+c) (by omega)]
 have e64:(64*(no:Int)+c) / 64=no:=by omega
 have m64:(64*(no:Int)+c) % 64=c:=by omega
 have hu:x.sp.mem.used (64*(no:Int)+c):=⟨by omega,by rw[e64];exact hhas,by rw[e64,m64,Int.toNat_natCast];exact hlt⟩
 refine HC.mono (seg_Read_c L11.at'.cd.sp.mem ok (by omega)) ?_
 rintro _ H12 ⟨rfl,rfl⟩
 rw[if_pos hu]
 refine⟨_,_,rfl,?_⟩
 rw[if_pos rfl]
 obtain⟨aw,haw,hatw⟩:=(hm.words _ hkL).at (Seg.ws_get (j:=c.toNat) (by omega))
 refine⟨_,_,_,by rw[box_get (e11.get g10)];rfl,aw,haw,⟨hc.1,by omega⟩,_,by rw[Nat.mul_one];exact e811.hat hatw,?_⟩
 have eg:x.sp.mem.get (64*(no:Int)+c)=(x.sp.mem.seg no).words c.toNat:=by unfold Mem.get;rw[e64,m64,Int.toNat_natCast]
 rw[if_pos eg,w64 (n:=c+1) (by omega)]
 exact⟨⟨by omega,e11⟩,by show((x.sp.mem.seg no).n-(c+1)).toNat< ((x.sp.mem.seg no).n-c).toNat;omega⟩
end Go.Proofs.YtibpklpgmgakcaaGreat
