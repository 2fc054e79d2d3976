/- The law SymsGone of morainelaw16 holds: called with any arguments it answers true and leaves what it was handed as it was. No condition beside the tables that the row lists. -/
import Derived.Lib.LaidU8T
import Derived.Lib.LaidIn
import Derived.Test.YtffacgdneichhaaGreatDoorSyE
import Derived.Test.YtffacgdneichhaaGreatDoorLawL
import Derived.Test.YtffacgdneichhaaGreatDoorTie
import Derived.Test.YtffacgdneichhaaGreatDoorCards
set_option linter.unusedVariables false
set_option linter.unusedSimpArgs false
namespace Go.Proofs.YtffacgdneichhaaGreatDoor.symsGone
open Go Go.Proofs.YtffacgdneichhaaGreatDoor
open Go.ChangeShapes Go.WideShapes Go.ChangeAt Go.RowKit

theorem ml{α:Type}: ∀(a b:List α),a.Nodup->(∀s∈a,s∈b)->a.length<=b.length
 | [],b,_,_=>Nat.zero_le _
 | s::t,b,hn,hs=>by
  obtain⟨l1,l2,rfl⟩:=List.append_of_mem (hs s (by simp))
  rw[List.nodup_cons]at hn
  have:=ml t (l1++l2) hn.2 (λu hu=>by
   have:=hs u (by simp[hu])
   simp only[List.mem_append,List.mem_cons]at this⊢
   rcases this with h | h | h
   ·exact .inl h
   ·exact absurd (h▸hu) hn.1
   ·exact .inr h)
  simp only[List.length_append,List.length_cons]at this⊢
  omega
theorem rv{α:Type}{a b:List α}(h1:a.Nodup)(h2:b.Nodup)(h: ∀s,s∈a ↔ s∈b):a.length=b.length:=
 Nat.le_antisymm (ml a b h1 λs hs=>(h s).1 hs) (ml b a h2 λs hs=>(h s).2 hs)
structure Names (names:List ByteArray) (i:Nat) (D:List ByteArray):Prop where
 nod:D.Nodup
 le:D.length<=i
 mem: ∀s,s∈D ↔ s.size≠0/\ ∃j,j<i/\names[j]?=some s
theorem Names.nil{names:List ByteArray}:Names names 0 []:=⟨List.nodup_nil,Nat.le_refl _,λs=>⟨λh=>(by cases h),λ⟨_,j,h,_⟩=>by omega⟩⟩
theorem Names.skip{names:List ByteArray}{i:Nat}{D:List ByteArray}{s:ByteArray}(h:Names names i D)(hs:names[i]?=some s)(h0:s.size=0\/s∈D):Names names (i+1) D:=by
 refine⟨h.nod,by have:=h.le;omega,λu=>⟨λhu=>?_,λ⟨hu,j,hj,hju⟩=>?_⟩⟩
 ·obtain⟨q,j,hj,hju⟩:=(h.mem u).1 hu
  exact⟨q,j,by omega,hju⟩
 ·by_cases e:j=i
  ·subst e
   obtain rfl:s=u:=Option.some.inj (hs.symm.trans hju)
   rcases h0 with q | q
   ·exact absurd q hu
   ·exact q
  ·exact(h.mem u).2 ⟨hu,j,by omega,hju⟩
theorem Names.add{names:List ByteArray}{i:Nat}{D:List ByteArray}{s:ByteArray}(h:Names names i D)(hs:names[i]?=some s)(h0:s.size≠0)(hn:s ∉ D):Names names (i+1) (D++[s]):=by
 refine⟨?_,by have:=h.le;simp;omega,λu=>⟨λhu=>?_,λ⟨hu,j,hj,hju⟩=>?_⟩⟩
 ·rw[List.nodup_append]
  exact⟨h.nod,by simp,λa ha d hd=>by simp at hd;rw[hd];exact λq=>hn (q▸ha)⟩
 ·rcases List.mem_append.1 hu with hu | hu
  ·obtain⟨q,j,hj,hju⟩:=(h.mem u).1 hu
   exact⟨q,j,by omega,hju⟩
  ·simp at hu;subst hu;exact⟨h0,i,by omega,hs⟩
 ·by_cases e:j=i
  ·subst e
   obtain rfl:s=u:=Option.some.inj (hs.symm.trans hju)
   simp
  ·exact List.mem_append_left _ ((h.mem u).2 ⟨hu,j,by omega,hju⟩)
def ren:Go.Shelf.Ren:=⟨id,λ| 5=>5 | 119=>126 | 138=>128 | 139=>129 | n=>n,λ| 3=>0 | 4=>1 | n=>n⟩
theorem td{W:World}(h:laidMetH Tryz.prog Rows.symsGoneRow.laid W):kn W.heap:=by
 rw[MakeChecks.laidMetH_plain _ _ _ (by kernel_rfl)]at h
 have ef:Pinned.utf8First=Lib.firstData:=by kernel_rfl
 have ea:Rows.laid_unicode_utf8_acceptRanges (H:=Unit)=Lib.acceptData:=by kernel_rfl
 have r2:=Lib.laidMet.reads h (.head _)
 have r1:=Lib.laidMet.reads h (.tail _ (.head _))
 rw[show Rows.laid_unicode_utf8_first=Lib.firstData from ef]at r1
 rw[ea]at r2
 have t:=utf8Tabs_of_readsT (P:=Tryz.prog) (ρ:=ren) ⟨Tryz.underlying5,Tryz.underlying126,Tryz.underlying128,Tryz.underlying129⟩
  ⟨by kernel_rfl,by kernel_rfl,by kernel_rfl,by kernel_rfl,by kernel_rfl,by kernel_rfl,by kernel_rfl⟩ r1 r2
 refine⟨λc hc=>?_,λi hi=>⟨?_,?_,trivial⟩⟩
 ·have:=t.1 c hc
  rw[iL]at this
  rw[addr_add_mk,Nat.zero_add];exact this
 ·have:=(t.2 i hi).1
  rw[iL]at this
  rw[addr_add_mk,addr_add_mk,Nat.zero_add,Nat.add_zero,Nat.mul_comm];exact this
 ·have:=(t.2 i hi).2
  rw[iL]at this
  rw[addr_add_mk,addr_add_mk,Nat.zero_add,Nat.mul_comm];exact this
def ip(n:Nat)(H0 A:zV)(P:Nat):Prop:= ∃(b:Blk) (x:Hp) (G:Int->Prop) (th:TF) (held:List Int) (names:List ByteArray) (Ls:List SyE),SPl (100+1024*n) H0 A b x G th P held names Ls/\Ls.length<=n
theorem ip.e{n:Nat}{H0 A:zV}{P:Nat}(h:ip n H0 A P):Ext H0 A:=by
 obtain⟨b,x,G,th,held,names,Ls,S,_⟩:=h
 exact S.hs.e
theorem ip.ext{n:Nat}{H0 A A':zV}{P:Nat}(h:ip n H0 A P)(e:Ext A A'):ip n H0 A' P:=by
 obtain⟨b,x,G,th,held,names,Ls,S,q⟩:=h
 exact⟨b,x,G,th,held,names,Ls,S.ext e,q⟩
theorem nK{n:Nat}{H0 A:zV}{P:Nat}(h:ip n H0 A P)(T8:kn H0)(hn:n<=300){what at' gen:Int}{name:ByteArray}(hs:name.size<=1000):
  bI.C (some ⟨P,0,none⟩) what at' gen name A (λv A'=>v=.bool true/\ip (n+1) H0 A' P):=by
 obtain⟨b,x,G,th,held,names,Ls,S,q⟩:=h
 refine HC.mono (rW S T8 (by omega) (by omega) hs) ?_
 rintro _ A' ⟨rfl,x',G',th',held',names',Ls',S',hl⟩
 exact⟨rfl,b,x',G',th',held',names',Ls',S'.le (by omega),by omega⟩
theorem se{n:Nat}{H0 A:zV}{P:Nat}(h:ip n H0 A P)(hn:n<=300):bM.C (some ⟨P,0,none⟩) A (λv A'=>v=.bool true/\Ext A A'):=by
 obtain⟨b,x,G,th,held,names,Ls,S,q⟩:=h
 exact ru S (by omega)
set_option maxRecDepth 100000 in
set_option maxHeartbeats 1000000 in
theorem law(l:Sl jg)(name:ByteArray)(H:zV)(Al:SlOK 4 nG maxLen H l)(T8:kn H):
  bT.C l.p l.n l.c name H (λv H'=>v=.bool true/\Ext H H'):=by
 refine HC.via λR hR=>bT.link ?_
 unfold bT.pt zY
 have awk: ∀{A:zV},Ext H A->bN.C A (λv H1=> ∃x:Bool,v=.bool x/\R (.bool x) H1):=λ{A} e=>by
  refine HC.mono qj ?_
  rintro _ H1 ⟨rfl,e1⟩
  exact⟨_,rfl,hR _ _ ⟨rfl,e.trans e1⟩⟩
 refine HC.mono (rX Al) ?_
 rintro _ _ ⟨rfl,(rfl | ⟨rfl,hn,hsz⟩)⟩
 ·exact⟨_,rfl,by rw[if_pos (by rw[Bool.true_or])];exact awk (Ext.refl _)⟩
 refine⟨_,rfl,?_⟩
 by_cases hbig:(name.size:Int)>500
 ·rw[if_pos (by rw[Bool.false_or];exact zX hbig)];exact awk (Ext.refl _)
 rw[if_neg (by rw[Bool.false_or,decide_eq_true_eq];exact hbig)]
 have hll:=Al.len
 refine HC.mono rq ?_
 rintro _ H2 ⟨P,b,x,G,rfl,S0⟩
 refine⟨_,rfl,?_⟩
 rw[onPtr_some]
 refine⟨λi A=> ∃k:Nat,i=k/\k<=l.n/\ip k _ A P,λi _=>((l.n:Int)-i).toNat,⟨0,rfl,by omega,b,x,G,_,_,_,_,S0.le (by omega),by simp⟩,?_⟩
 rintro _ A ⟨k,rfl,hk,S⟩
 by_cases hlt:(k:Int)< (l.n:Int)
 ·rw[if_pos hlt]
  obtain⟨a,ha,hrow⟩:=(Al.ext S.e).row k (by omega)
  have hz:=hsz k (by omega)
  generalize l.xs[k]'(by omega)=cl at hrow hz
  refine⟨a,ha,⟨by omega,hlt⟩,cl.what,cl.atv,cl.gen,cl.name,by rw[show Int.toNat (k:Int)=k by omega];exact hrow,?_⟩
  refine HC.mono (nK S T8 (by omega) (by omega)) ?_
  rintro _ A2 ⟨rfl,S2⟩
  refine⟨_,rfl,?_⟩
  rw[if_pos rfl]
  have hw:IntKind.wrap .i64 ((k:Int)+1)=((k+1:Nat):Int):=by rw[w64 (n:=(k:Int)+1) (by omega)];omega
  rw[hw]
  exact⟨⟨k+1,rfl,by omega,S2⟩,by show((l.n:Int)-((k+1:Nat):Int)).toNat< ((l.n:Int)-(k:Int)).toNat;omega⟩
 rw[if_neg hlt]
 obtain⟨b,x,G,th,held,names,Ls,S,hLs⟩:=S
 have hblt:=S.hs.blt
 have hPl:=bB S.play.cell
 refine kY S (λpB pc A6 eA hp hb=>?_)
 have S6:=S.ext eA
 refine⟨_,S6.play.heap,?_⟩
 refine HC.mono (rt S6 ⟨by decide,by decide⟩ (by omega) (by omega) hp (λj hj=>⟨λh=>by have:=hblt j h;have:=hb j hj;omega,by have:=hb j hj;omega,(hb j hj).2⟩)) ?_
 rintro v A7 (⟨rfl,e⟩ | ⟨rfl,x',G',th',held',Ls',S',hl',hgone⟩)
 ·refine⟨_,rfl,?_⟩
  rw[if_neg (by decide)]
  exact awk (S6.hs.e.trans e)
 refine⟨_,rfl,?_⟩
 rw[if_pos rfl]
 have hin:=hgone rfl
 clear hgone
 have hnl:=S'.play.lenN
 have hhl:=S'.play.len
 refine⟨λcount hd i C=>(0<=i/\i<=8)/\Ext A7 C/\ ∃D:List ByteArray,count=(D.length:Int)/\Names names i.toNat D/\(hd=true ↔ name∈D),λ_ _ i _=>(8-i).toNat,⟨by omega,Ext.refl _,[],rfl,Names.nil,by simp⟩,?_⟩
 rintro count hd i C ⟨hi,eC,D,rfl,hD,hdm⟩
 have SC:=S'.ext eC
 have hDl:=hD.le
 by_cases hi8:i<8
 ·rw[if_pos hi8]
  have hr:(0:Int)<=i/\i< (8:Int):=⟨hi.1,hi8⟩
  have hk:i.toNat<names.length:=by omega
  have hget:names[i.toNat]?=some names[i.toNat]:=List.getElem?_eq_getElem hk
  have hd1:((8:Int)-(i+1)).toNat< ((8:Int)-i).toNat:=by omega
  have hwr:IntKind.wrap .i64 (i+1)=i+1:=w64 (by omega)
  have hi1:(i+1).toNat=i.toNat+1:=by omega
  refine⟨hr,names[i.toNat],SC.play.name hk,?_⟩
  by_cases h0:names[i.toNat].size=0
  ·rw[if_pos ((hZ _).2 h0),hwr]
   exact⟨⟨by omega,eC,D,rfl,by rw[hi1];exact hD.skip hget (.inl h0),hdm⟩,hd1⟩
  rw[if_neg (λq=>h0 ((hZ _).1 q))]
  refine⟨λh2 B=>C=B/\(h2=true ↔ name∈D\/names[i.toNat]=name),?_,?_⟩
  ·by_cases hh:hd=true
   ·rw[if_pos hh];exact⟨rfl,λ_=> .inl (hdm.1 hh),λ_=>rfl⟩
   ·rw[if_neg hh]
    refine⟨hr,names[i.toNat],SC.play.name hk,rfl,?_⟩
    rw[beq_iff_eq,jf]
    exact⟨λq=> .inr q,λq=>q.resolve_left (λh=>hh (hdm.2 h))⟩
  rintro h2 _ ⟨rfl,hh2⟩
  refine⟨λf k B=>C=B/\(0<=k/\k<=i)/\(f=true ↔ ∀j,j<k.toNat->names[j]?≠some names[i.toNat]),λ_ k _=>(i-k).toNat,⟨rfl,by omega,λ_ j h=>by omega,λ_=>rfl⟩,?_⟩
  rintro f k _ ⟨rfl,hkk,hf⟩
  by_cases hlt2:k<i
  ·rw[if_pos hlt2]
   have hk8:(0:Int)<=k/\k< (8:Int):=⟨hkk.1,by omega⟩
   have hj:k.toNat<names.length:=by omega
   have hgj:names[k.toNat]?=some names[k.toNat]:=List.getElem?_eq_getElem hj
   have hd2:(i-(k+1)).toNat< (i-k).toNat:=by omega
   have hwr2:IntKind.wrap .i64 (k+1)=k+1:=w64 (by omega)
   have hk1:(k+1).toNat=k.toNat+1:=by omega
   by_cases hft:f=true
   ·rw[if_pos hft]
    refine⟨hk8,names[k.toNat],SC.play.name hj,hr,names[i.toNat],SC.play.name hk,?_⟩
    rw[hwr2]
    refine⟨⟨rfl,by omega,?_⟩,hd2⟩
    rw[Bool.not_eq_true',beq_eq_false_iff_ne,hk1]
    have hf':=hf.1 hft
    refine⟨λq j hjk hjq=>?_,λq h=>q k.toNat (by omega) (by rw[hgj,jf.1 h])⟩
    by_cases e:j=k.toNat
    ·subst e
     rw[hgj]at hjq
     exact q (jf.2 (Option.some.inj hjq))
    ·exact hf' j (by omega) hjq
   ·rw[if_neg hft,hwr2]
    refine⟨⟨rfl,by omega,λq=>(by cases q),λq=>absurd (hf.2 λj hjk=>q j (by omega)) hft⟩,hd2⟩
  rw[if_neg hlt2]
  obtain rfl:k=i:=by omega
  by_cases hft:f=true
  ·rw[if_pos hft,hwr,w64 (n:=(D.length:Int)+1) (by omega)]
   have hnD:names[k.toNat] ∉ D:=λh=>by
    obtain⟨_,j,hj,hjq⟩:=(hD.mem _).1 h
    exact hf.1 hft j hj hjq
   refine⟨⟨by omega,eC,D++[names[k.toNat]],by simp,by rw[hi1];exact hD.add hget h0 hnD,?_⟩,hd1⟩
   rw[hh2,List.mem_append,List.mem_singleton]
   exact⟨λq=>q.imp id Eq.symm,λq=>q.imp id Eq.symm⟩
  ·rw[if_neg hft,hwr]
   have hiD:names[k.toNat]∈D:=Classical.byContradiction λh=>hft (hf.2 λj hj hjq=>h ((hD.mem _).2 ⟨h0,j,hj,hjq⟩))
   refine⟨⟨by omega,eC,D,rfl,by rw[hi1];exact hD.skip hget (.inr hiD),?_⟩,hd1⟩
   rw[hh2]
   exact⟨λq=>q.elim id (λe=>e▸hiD),.inl⟩
 rw[if_neg hi8]
 obtain rfl:i=8:=by omega
 have hlen: ∀s,s∈D ↔ ∃e∈Ls',e.nm=s:=λs=>by
  constructor
  ·intro h
   obtain⟨h0,j,hj,hjq⟩:=(hD.mem s).1 h
   have hjn:j<names.length:=(List.getElem?_eq_some_iff.1 hjq).1
   obtain rfl:names[j]=s:=by rw[List.getElem?_eq_getElem hjn]at hjq;exact Option.some.inj hjq
   obtain⟨e,he,hen,_⟩:=(S'.hold j (by omega) hjn).resolve_left (λq=>h0 q.1)
   exact⟨e,he,hen⟩
  ·rintro⟨e,he,rfl⟩
   obtain⟨j,hj,hje⟩:=List.getElem_of_mem (hin e he)
   obtain⟨r1,r2,r3⟩:=S'.ent e he
   have tw:=S'.hs.pic.ths _ _ _ r1
   have m1:=tw.obj.1.2.1
   rcases S'.hold j hj (by omega)with⟨_,q⟩ | ⟨e',q1,q2,q3⟩
   ·omega
   ·obtain rfl:=S'.oneW q1 he (q3.trans hje)
    exact(hD.mem _).2 ⟨(pP r3).2.1,j,by show j<8;omega,by rw[List.getElem?_eq_getElem (by omega),q2]⟩
 have hcount:D.length=Ls'.length:=by
  have h1:=rv hD.nod S'.nod (λs=>by rw[hlen,List.mem_map])
  rw[List.length_map]at h1
  exact h1
 refine⟨_,SC.play.heap,?_⟩
 refine HC.mono (SC.Find_c (by omega) name) ?_
 rintro _ A9 ⟨rfl,e9⟩
 have S9:=SC.ext e9
 obtain⟨B,cc,hsl⟩:=S9.syLen
 refine⟨_,_,rfl,_,S9.play.heap,_,rfl,B,Ls'.length,cc,hsl,?_⟩
 rw[if_pos (by rw[hcount])]
 have hrb:(fi x'.sp.mem (Ls'.map SyE.w) name).isSome=hd:=by
  rw[Bool.eq_iff_iff,SC.isSome name,hdm,hlen]
 rw[if_pos hrb]
 refine HC.mono (ru S9 (by omega)) ?_
 rintro _ A10 ⟨rfl,e10⟩
 refine⟨_,rfl,?_⟩
 rw[if_pos rfl]
 exact awk ((S9.ext e10).hs.e)

set_option maxRecDepth 100000 in
theorem lifted(os:Os)(started:os.Started)(H:Type)(enc:TypeId×Value->H):
  ReturnsInHanded {} Tryz.checked os 4 .any (λw args=>(Rows.symsGoneSpec.pre enc Tryz.prog Tryz.f4 Rows.symsGoneRow.domain false w args/\laidMetH Tryz.prog Rows.symsGoneRow.laid w)/\sizedMet enc Tryz.prog Tryz.f4 (OpenSpec.ofChange Rows.symsGoneSpec) false w args)
   (Rows.symsGoneSpec.post enc Tryz.prog Tryz.f4 false true false false):=by
 refine lb (tb:=4) started (by kernel_rfl) Tryz.func4
  (ChangeSpec.witness_shaped (enc:=enc) (C:=Tryz.checked) (os:=os) (X:=λw _=>laidMetH Tryz.prog Rows.symsGoneRow.laid w) false (World.laidAll Tryz.prog os Rows.symsGoneRow.laid) #[.slice none 0 0,.string (ByteArray.mk #[])] 8 (World.laidAll_os _ _ _)
   (World.shaped_of_ZipB (by kernel_rfl) (by kernel_rfl)) (by kernel_rfl) (by kernel_rfl) (by kernel_rfl)
   (by rw[MakeChecks.laidMetH_plain _ _ _ (by kernel_rfl)];exact laidMet_laidAll _ (by kernel_rfl) (by kernel_rfl)))
  rfl (by kernel_rfl) rfl Tryz.underlying4 (λds hds=>?_) ?_
 ·match ds,hds with
  | [d0,d1],_=>rfl
 intro W base args ds p hL hval hA _
 rw[Tryz.params4]at hA hval
 obtain⟨v0,vs0,d0,ds0,p0,q0,hargs,rfl,rfl,h0,r0⟩:=trodAll_cons hA
 obtain⟨v1,vs1,d1,ds1,p1,q1,rfl,rfl,rfl,h1,r1⟩:=trodAll_cons r0
 obtain⟨rfl,rfl,rfl⟩:=trodAll_nil r1
 obtain rfl:args= #[v0,v1]:=by cases args;simp_all
 obtain⟨s0,rfl,w0⟩:=qh Tryz.underlying22 (by kernel_rfl) nH (B:=maxLen) (.inl rfl) (hval 0 22 v0 rfl rfl) h0
 obtain⟨a1,rfl,w1⟩:=rl Tryz.underlying9 (hval 1 9 v1 rfl rfl) h1
 exact law s0 a1 W.heap w0 (td hL)

theorem over:Rows.SymsGoneSaid:=
 OpenClaim.holds_of_wide 4 Tryz.f4 rfl rfl rfl rfl rfl rfl rfl ⟨rfl,rfl,rfl,rfl,rfl⟩ rfl rfl rfl rfl rfl (by kernel_rfl) Tryz.func4 (by kernel_rfl)
  (of_decide_eq_true (by kernel_rfl)) (by unfold Func.isWrapper;first | (rw[if_pos (by decide+kernel)];kernel_rfl) | (rw[if_neg (by decide+kernel)];exact⟨rfl,rfl⟩))
  (λos started H enc _=>lifted os started H enc)
theorem proved:Rows.SymsGoneCardSaid:=
 Claim7.holds_tied_plain_at .later [] [.data,.pinned] true (true, "b6bc01cf4bb9f4cbd1fef1c07a6ed00ad375863604883af91f598663071c1e71") false over (λ_ h=>by cases h) (by kernel_rfl) (λ_ h=>by cases h) symsGone_row_tie rfl ⟨rfl,rfl⟩ (by kernel_rfl) rfl
  (λf fn hf hfn=>by
   obtain rfl:f=4:=Option.some.inj ((show Tryz.prog.funcNamed "moraine/morainelaw16.SymsGone" =some 4 by kernel_rfl).symm.trans hf) |>.symm
   obtain rfl:fn=Tryz.f4:=(Option.some.inj (Tryz.func4.symm.trans hfn)).symm
   exact⟨by kernel_rfl,λj t ht=>by
    rw[Tryz.params4]at ht
    have hm:t∈[22,9]:=by simpa using Array.mem_of_getElem? ht
    have hall:([22,9].all λu=> !Tryz.prog.wantsStandIn u)=true:=by kernel_rfl
    exact(show Tryz.prog.wantsStandIn t=false by simpa using List.all_eq_true.1 hall t hm)⟩)
  (by kernel_rfl)
#print axioms proved
end Go.Proofs.YtffacgdneichhaaGreatDoor.symsGone
