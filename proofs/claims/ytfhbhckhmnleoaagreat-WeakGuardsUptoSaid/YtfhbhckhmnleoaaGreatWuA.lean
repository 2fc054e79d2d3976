/-
 The contract of weak.Guards: entries are made ready, the first one first, over and over; those that stay. Proves nothing of any one statement.
-/
import Derived.Test.YtfhbhckhmnleoaaGreatGcN
import Derived.Test.YtfhbhckhmnleoaaGreatCol
set_option linter.unusedVariables false
set_option linter.unusedSimpArgs false
namespace Go.Proofs.YtfhbhckhmnleoaaGreat
open Go
def EnAt(H:zV)(B:zW)(l:List (Int×Int)):Prop:= ∀i (h:i<l.length),∃a,B=some a/\aP H (a.add (i*2)) 0 [vu l[i].1,vu l[i].2]
theorem EnAt.keep{S:List Nat}{H d:zV}{B:zW}{l:List (Int×Int)}(h:EnAt H B l)(f:Fr S H d)(e: ∀j∈blks B,j ∉ S):EnAt d B l:=λi g=>by
 obtain⟨a,rfl,k⟩:=h i g
 refine⟨a,rfl,f.rowAt ?_ k⟩
 have:(a.add (i*2)).block=a.block:=by unfold Addr.add;split<;>rfl
 rw[this];exact e _ (by simp)
theorem EnAt.ext{H a:zV}{B:zW}{l:List (Int×Int)}(h:EnAt H B l)(e:Ext H a):EnAt a B l:=h.keep (S:=[]) e.fr (λ_ _=>by simp)
def evs(l:List (Int×Int)):List Value:=l.flatMap λe=> [vu e.1,vu e.2]
theorem pH(l:List (Int×Int))(e:Int×Int):evs (l++[e])=evs l++[vu e.1,vu e.2]:=by unfold evs;rw[List.flatMap_append];rfl
theorem Own.entries{H:zV}{T:TypeId}{B:zW}{n c:Nat}{l:List (Int×Int)}(h:Own H T 2 B n c (evs l)):EnAt H B l:=λi g=>by
 obtain⟨a,d,_,j⟩:=Own.elem (f:=λe:Int×Int=> [Value.int .u64 e.1,vu e.2]) h (λ_=>rfl) (by decide) g
 exact⟨a,d,j⟩
def tc(v:Value):Bool:=match v with | .int _ n=>decide (n=1) | _=>false
def nD(A:zV)(c:Nat):Nat:=match A[c]? with | some (Obj.cells cs _ _)=>cs.toList.countP tc | _=>0
theorem td(l:List Int):(ivs l).countP tc=l.countP (λv=>decide (v=1)):=by
 unfold ivs
 rw[List.countP_map];rfl
theorem Own.ones{A:zV}{T:TypeId}{c n:Nat}{l:List Int}(h:Own A T 1 (some ⟨c,0,none⟩) n n (ivs l)):nD A c=l.countP (λv=>decide (v=1)):=by
 obtain⟨_,d,a,g,_,f,e⟩:=h
 unfold nD
 have a:A[c]?=some (.cells d T (0,0)):=a
 rw[a]
 show d.toList.countP tc=_
 rw[<-td]
 congr 1
 refine List.ext_getElem? λj=>?_
 rw[Array.getElem?_toList]
 rcases Nat.lt_or_ge j (n*1)with q | q
 ·exact e j q
 ·rw[Array.getElem?_eq_none (by omega),List.getElem?_eq_none (by omega)]
theorem tX(l:List Int)(i:Nat)(v:Int):(ivs l).set i (vi v)=ivs (l.set i v):=by unfold ivs;rw[List.map_set]
theorem tY{l:List Int}{i:Nat}{v:Int}(h:l[i]?=some v):(ivs l)[i]?=some (vi v):=by unfold ivs;rw[List.getElem?_map,h];rfl
theorem te(n:Nat):List.replicate n (Value.int .i64 0)=ivs (List.replicate n 0):=by unfold ivs;rw[List.map_replicate]
def iu(L:List Int)(k:Nat):List Int:=L.take k++List.replicate (L.length-k) 0
theorem pI(L:List Int){k:Nat}(h:k<=L.length):(iu L k).length=L.length:=by unfold iu;rw[List.length_append,List.length_take,List.length_replicate];omega
theorem oO(L:List Int){k:Nat}(h:k<L.length):iu L (k+1)=(iu L k).set k L[k]:=by
 refine List.ext_getElem? λj=>?_
 unfold iu
 rw[List.getElem?_set]
 by_cases e:k=j
 ·subst e
  rw[if_pos rfl,if_pos (by rw[List.length_append,List.length_take,List.length_replicate];omega),List.getElem?_append_left (by rw[List.length_take];omega),List.getElem?_take,if_pos (by omega),List.getElem?_eq_getElem h]
 ·rw[if_neg e]
  rcases Nat.lt_or_ge j k with q | q
  ·rw[List.getElem?_append_left (by rw[List.length_take];omega),List.getElem?_append_left (by rw[List.length_take];omega),List.getElem?_take,List.getElem?_take,if_pos (by omega),if_pos q]
  ·rw[List.getElem?_append_right (by rw[List.length_take];omega),List.getElem?_append_right (by rw[List.length_take];omega),List.length_take,List.length_take,List.getElem?_replicate,List.getElem?_replicate]
   have:(j-min (k+1) L.length<L.length-(k+1)) ↔ (j-min k L.length<L.length-k):=by omega
   simp only[this]
theorem qH(L:List Int){k:Nat}(h:k<L.length):(iu L k)[k]?=some 0:=by
 unfold iu
 rw[List.getElem?_append_right (by rw[List.length_take];omega),List.length_take,List.getElem?_replicate,if_pos (by omega)]
theorem pJ(L:List Int):iu L L.length=L:=by unfold iu;rw[List.take_length,Nat.sub_self];simp
theorem tf{l:List Int}{k:Nat}{v:Int}(h:l[k]?=some v):l.set k v=l:=by
 refine List.ext_getElem? λj=>?_
 rw[List.getElem?_set]
 by_cases e:k=j
 ·subst e
  rw[if_pos rfl,h]
  split
  ·rfl
  ·rename_i q;rw[List.getElem?_eq_none (by omega)]at h;cases h
 ·rw[if_neg e]
structure GdL (H:zV) (b:Blk) (x:Hp) (q:TB) (t:Tr) (c c2 c3 c4:Nat) (lB:zW) (lC:Nat) (l:List (Int×Int)) (lost:List Int) (A:zV):Prop where
 tg:Tg A b x q t
 g0:A[c]?=some (.cells #[vp (some ⟨q.t,0,none⟩)] 37 (0,0))
 g2:A[c2]?=some (.cells #[vs lB l.length lC] 31 (0,0))
 g4:A[c4]?=some (.cells #[vs (some ⟨c3,0,none⟩) l.length l.length] 75 (0,0))
 g3:Own A 3 1 (some ⟨c3,0,none⟩) l.length l.length (ivs lost)
 row:EnAt A lB l
 fr:Fr (q.s::spB b) H A
 new:H.size<=c/\H.size<=c2/\H.size<=c3/\H.size<=c4/\c≠c3/\c2≠c3/\c4≠c3
 lb: ∀j∈blks lB,j<H.size/\j ∉ b.all/\j ∉ q.all
 all: ∀i,i∈b.all\/i∈q.all->i<H.size
 len:lost.length=l.length
section
variable {H A A':zV} {b:Blk} {x:Hp} {q:TB} {t:Tr} {c c2 c3 c4:Nat} {lB:zW} {lC:Nat} {l:List (Int×Int)} {lost:List Int}
theorem GdL.ext(h:GdL H b x q t c c2 c3 c4 lB lC l lost A)(e:Ext A A'):GdL H b x q t c c2 c3 c4 lB lC l lost A':=
 ⟨h.tg.grow e,e.get h.g0,e.get h.g2,e.get h.g4,h.g3.ext e,h.row.ext e,h.fr.trans e.fr,h.new,h.lb,h.all,h.len⟩
theorem GdL.small(h:GdL H b x q t c c2 c3 c4 lB lC l lost A): ∀i∈q.s::spB b,i<H.size:=λi d=>by
 rcases List.mem_cons.1 d with a | a
 ·exact h.all i (.inr (by rw[a];simp[TB.all]))
 ·exact h.all i (.inl (gH a))
theorem GdL.go{i:Hp}{g:Tr}(h:GdL H b x q t c c2 c3 c4 lB lC l lost A)(T:Tg A' b i q g)(f:Fr (q.s::spB b) A A'):GdL H b i q g c c2 c3 c4 lB lC l lost A':=by
 obtain⟨o,p,r,u,v,w,y⟩:=h.new
 have k:=h.small
 have no: ∀j,H.size<=j->j ∉ q.s::spB b:=λj a d=>by have:=k j d;omega
 refine⟨T,f.get (no _ o) h.g0,f.get (no _ p) h.g2,f.get (no _ u) h.g4,h.g3.keep f (λj a=>by simp at a;rw[a];exact no _ r),h.row.keep f (λj a d=>?_),h.fr.trans f,h.new,h.lb,h.all,h.len⟩
 obtain⟨_,m,n⟩:=h.lb j a
 rcases List.mem_cons.1 d with e | e
 ·exact n (by rw[e];simp[TB.all])
 ·exact m (gH e)
theorem GdL.mark(h:GdL H b x q t c c2 c3 c4 lB lC l lost A){i:Nat}(a:i<l.length)(v:Int):aN A ((Addr.mk c3 0 none).add (i*1)) 0 1/\ ∀A',A'=aV A ((Addr.mk c3 0 none).add (i*1)) [vi v] 0->GdL H b x q t c c2 c3 c4 lB lC l (lost.set i v) A'/\Fr [c3] A A':=by
 obtain⟨p,r,s,u,w,y,z⟩:=h.new
 obtain⟨k,m⟩:=h.g3.put a (vi v)
 rw[Nat.mul_one]
 refine⟨k,λA' e=>?_⟩
 obtain⟨o,f⟩:=m A' e
 have f:Fr [c3] A A':=f
 rw[tX]at o
 refine⟨⟨h.tg.stay f (λj d g=>by simp at d;have:=h.all j (.inl g);omega) (λj d g=>by simp at d;have:=h.all j (.inr g);omega),f.get (by simp;omega) h.g0,f.get (by simp;omega) h.g2,f.get (by simp;omega) h.g4,o,h.row.keep f (λj d a=>?_),h.fr.trans' f (λi a _=>a) (λi a n=>by simp at a;omega),h.new,h.lb,h.all,by rw[List.length_set];exact h.len⟩,f⟩
 have:=(h.lb j d).1
 simp at a;omega
theorem GdL.atMark(h:GdL H b x q t c c2 c3 c4 lB lC l lost A){i:Nat}{v:Int}(f:lost[i]?=some v):hat A ((Addr.mk c3 0 none).add (i*1))=some (vi v):=by
 obtain⟨a,d,e⟩:=h.g3.at (tY f)
 cases d
 rw[Nat.mul_one];exact e
theorem ji(h:t.over=false)(m:Mem)(w:Int):(decide (¬(t.over=false/\aG t.old w)) || (m.fwd w).isSome)=reachedB t.old m w:=by
 unfold reachedB
 by_cases o:aG t.old w
 ·rw[zQ (show ¬ ¬(t.over=false/\aG t.old w)from λq=>q ⟨h,o⟩),zQ (show ¬ ¬aG t.old w from λq=>q o)]
 ·rw[zX (show ¬(t.over=false/\aG t.old w)from λq=>o q.2),zX (show ¬aG t.old w from o)]
theorem uC(S:GdL H b x q t c c2 c3 c4 lB lC l lost A){i:Nat}{e:Int×Int}{h:Int}(g:l[i]?=some e)(j:lost[i]?=some h)(r:aC e.2):
  dL.C (i:Int) (some (Addr.mk c4 0 none)) (some (Addr.mk c 0 none)) (some (Addr.mk c2 0 none)) A (λv A'=>v=.bool (decide (h=1) && reachedB t.old x.sp.mem e.2)/\Ext A A'):=by
 refine HC.via λR m=>dL.link ?_
 unfold dL.pt
 have o:i<l.length:=by
  rcases Nat.lt_or_ge i l.length with q | q
  ·exact q
  ·rw[List.getElem?_eq_none q]at g;cases g
 have n:(0:Int)<=(i:Int)/\(i:Int)< (l.length:Int):=by omega
 have k:Int.toNat (i:Int)=i:=by omega
 refine⟨_,rfl,_,_,_,by rw[aK S.g4];rfl,_,rfl,n,h,by rw[k];exact S.atMark j,?_⟩
 by_cases f:h=1
 ·rw[if_pos f]
  obtain⟨a,p,d⟩:=S.row i o
  have d:=d.2.1
  rw[List.getElem?_eq_getElem o]at g
  cases g
  refine⟨_,rfl,_,by rw[aK S.g0];rfl,_,rfl,_,_,_,by rw[aK S.g2];rfl,a,p,n,l[i].2,by
   rw[k]
   rw[Nat.zero_add]at d;exact d,HC.mono (fp S.tg.toTc r) ?_⟩
  rintro _ A' ⟨rfl,e⟩
  exact⟨_,rfl,m _ _ ⟨by rw[zX f,Bool.true_and,ji S.tg.on],e⟩⟩
 ·rw[if_neg f]
  exact m _ _ ⟨by rw[zQ f,Bool.false_and],Ext.refl _⟩
end
set_option maxRecDepth 100000 in
set_option maxHeartbeats 2000000 in
theorem nN{H:zV}{b:Blk}{x:Hp}{q:TB}{t:Tr}{lB:zW}{lC:Nat}{l:List (Int×Int)}(T:Tg H b x q t)(cP:eR t.seen)(cS:0<=t.tgt)(br:EnAt H lB l)(hw: ∀e∈l,aC e.1/\aC e.2)(cK: ∀j∈blks lB,j<H.size/\j ∉ b.all/\j ∉ q.all)(hl:l.length<=1000000):
  eO.C (some ⟨q.t,0,none⟩) lB l.length lC H (λv H'=> ∃(p:Sp) (V:List (Int×Value)) (d:List Int) (B:zW) (dc:Nat),Rdy t.old t.tgt l x.sp t.seen (fP t.old x.sp.mem l) p V d/\(∀i,i<l.length-> ¬Fit t.old p.mem l d i)/\
   v=.slice B (outG t.old t.tgt p l d).2.length dc/\Own H' 36 2 B (outG t.old t.tgt p l d).2.length dc (evs (outG t.old t.tgt p l d).2)/\(∀j∈blks B,H.size<=j)/\Tg H' b {x with sp:=(outG t.old t.tgt p l d).1} q {t with seen:=V}/\eR V/\Fr (q.s::spB b) H H'):=by
 refine HC.via λR hR=>eO.link ?_
 unfold eO.pt zY
 intro c H1 hc ap c2 H2 cy au
 have eg:Ext H H1:=Ext.push' ap
 have e2:Ext H1 H2:=Ext.push' au
 have z1:H1.size=H.size+1:=by rw[ap];simp
 have z2:H2.size=H1.size+1:=by rw[au];simp
 have k0:=e2.get (aO hc ap)
 have k2:=aO cy au
 refine⟨_,by rw[aK k0];rfl,HC.mono (jr (T.grow (eg.trans e2)).toTc) ?_⟩
 rintro _ HH ⟨rfl,cu⟩
 obtain rfl:H2=HH:=cu.symm
 refine⟨_,rfl,?_⟩
 rw[if_neg (by rw[T.on];decide)]
 refine⟨lB,l.length,lC,by rw[aK k2];rfl,by omega,by omega,by omega,by omega,λc3 H5 cz a5 c4 H6 cA bf=>?_⟩
 have e5:Ext H2 H5:=Ext.push' a5
 have z5:H5.size=H2.size+1:=by rw[a5];simp
 have z6:H6.size=H5.size+1:=by rw[bf];simp
 have en:Int.toNat (l.length:Int)=l.length:=by omega
 rw[en]at a5⊢
 obtain⟨q6,s6⟩:=gx (A3:=aV H6 (Addr.mk c4 0 none) [vs (some (Addr.mk c3 0 none)) l.length l.length] 0) cA bf [vs (some (Addr.mk c3 0 none)) l.length l.length] rfl
 refine⟨q6,λH7 cs=>?_⟩
 have bg:H7=aV H6 (Addr.mk c4 0 none) [vs (some (Addr.mk c3 0 none)) l.length l.length] 0:=cs
 obtain⟨k4,e7⟩:=s6 rfl
 rw[<-bg]at k4 e7
 have k3:=sM cz a5
 rw[te]at k3
 have E7:=((eg.trans e2).trans e5).trans e7
 have ao:=e5.trans e7
 have cx: ∀i,i∈b.all\/i∈q.all->i<H.size:=λi F=>T.lt F
 have a6:(fP t.old x.sp.mem l).length=l.length:=by unfold fP;rw[List.length_map]
 have cv: ∀(k:Nat) (h:k<l.length),(fP t.old x.sp.mem l)[k]'(by rw[a6];exact h)=if reachedB t.old x.sp.mem l[k].1=true then 0 else 1:=λk h=>by unfold fP;rw[List.getElem_map]
 have S0:GdL H b x q t c c2 c3 c4 lB lC l (iu (fP t.old x.sp.mem l) 0) H7:=⟨T.grow E7,ao.get k0,ao.get k2,k4,by
   unfold iu;rw[List.take_zero,List.nil_append,Nat.sub_zero,a6];exact k3.ext e7,br.ext E7,E7.fr,by omega,cK,cx,by rw[pI _ (by omega)];exact a6⟩
 have cJ: ∀{k:Nat} (h:k<l.length),l[k]?=some l[k]:=λh=>List.getElem?_eq_getElem h
 have ax: ∀{k:Nat} (h:k<l.length),aC l[k].1/\aC l[k].2:=λh=>hw _ (List.getElem_mem h)
 refine⟨lB,l.length,lC,by rw[aK (ao.get k2)];rfl,λi A=> ∃k:Nat,i=k/\k<=l.length/\GdL H b x q t c c2 c3 c4 lB lC l (iu (fP t.old x.sp.mem l) k) A,λi _=>(l.length-i).toNat,⟨0,rfl,by omega,S0⟩,?_⟩
 rintro _ H8 ⟨k,rfl,hk,S8⟩
 by_cases u:(k:Int)< (l.length:Int)
 ·rw[if_pos u]
  have m:k<l.length:=by omega
  have hd:((l.length:Int)-((k:Int)+1)).toNat< ((l.length:Int)-(k:Int)).toNat:=by omega
  rw[w64 (n:=(k:Int)+1) (by omega)]
  obtain⟨a,ha,hr⟩:=S8.row k m
  refine⟨a,ha,⟨by omega,u⟩,l[k].1,l[k].2,by rw[show Int.toNat (k:Int)=k by omega];exact hr,λc5 H9 cB ct=>?_⟩
  obtain⟨q9,s9⟩:=gx (A3:=aV H9 (Addr.mk c5 0 none) [vu l[k].1,vu l[k].2] 0) cB ct [vu l[k].1,vu l[k].2] rfl
  refine⟨q9,λbL b8=>?_⟩
  obtain⟨k5,b5⟩:=s9 rfl
  rw[<-b8]at k5 b5
  have cX:bL[c5]?=some (.cells #[vu l[k].1,vu l[k].2] 36 (0,0)):=k5
  have ag:=S8.ext b5
  refine⟨_,by rw[aK ag.g0];rfl,l[k].1,by rw[aK cX];rfl,HC.mono (fp ag.tg.toTc (ax m).1) ?_⟩
  rintro _ dr ⟨rfl,ci⟩
  refine⟨_,rfl,?_⟩
  rw[ji T.on]
  have ah:=ag.ext ci
  have U:=oO (fP t.old x.sp.mem l) (k:=k) (by omega)
  rw[cv k m]at U
  by_cases bq:reachedB t.old x.sp.mem l[k].1=true
  ·rw[if_pos bq]at U⊢
   rw[tf (qH _ (by omega))]at U
   exact⟨⟨k+1,by omega,by omega,by rw[U];exact ah⟩,hd⟩
  ·rw[if_neg bq]at U⊢
   refine⟨_,_,_,by rw[aK ah.g4];rfl,_,rfl,⟨by omega,u⟩,?_⟩
   rw[show Int.toNat (k:Int)=k by omega]
   obtain⟨p1,p2⟩:=ah.mark m 1
   refine⟨p1,λbM b9=>⟨⟨k+1,by omega,by omega,?_⟩,hd⟩⟩
   rw[U];exact(p2 bM b9).1
 rw[if_neg u]
 obtain rfl:k=l.length:=by omega
 rw[show iu (fP t.old x.sp.mem l) l.length=fP t.old x.sp.mem l by rw[<-a6];exact pJ _]at S8
 refine⟨λA=> ∃(p:Sp) (V:List (Int×Value)) (d:List Int),Rdy t.old t.tgt l x.sp t.seen (fP t.old x.sp.mem l) p V d/\eR V/\GdL H b {x with sp:=p} q {t with seen:=V} c c2 c3 c4 lB lC l d A,λA=>nD A c3,⟨_,_,_,.refl,cP,S8⟩,?_⟩
 rintro bO ⟨p,V,d,bh,af,ai⟩
 have d1:=ai.g3.ones
 refine⟨lB,l.length,lC,by rw[aK ai.g2];rfl,λi A=> ∃k:Nat,i=k/\k<=l.length/\(∀j,j<k-> ¬Fit t.old p.mem l d j)/\GdL H b {x with sp:=p} q {t with seen:=V} c c2 c3 c4 lB lC l d A,λi _=>(l.length-i).toNat,⟨0,rfl,by omega,λj y=>by omega,ai⟩,?_⟩
 rintro _ X ⟨k,rfl,hk,aw,f⟩
 by_cases u:(k:Int)< (l.length:Int)
 ·rw[if_pos u]
  have m:k<l.length:=by omega
  have hd:((l.length:Int)-((k:Int)+1)).toNat< ((l.length:Int)-(k:Int)).toNat:=by omega
  rw[w64 (n:=(k:Int)+1) (by omega)]
  obtain⟨a,ha,hr⟩:=f.row k m
  obtain⟨lv,Q⟩: ∃lv,d[k]?=some lv:=⟨_,List.getElem?_eq_getElem (by have:=f.len;omega)⟩
  have z:=ax m
  have av:=cJ m
  generalize l[k]=e at*
  refine⟨a,ha,⟨by omega,u⟩,e.1,e.2,by rw[show Int.toNat (k:Int)=k by omega];exact hr,λee bP cC ba=>?_⟩
  obtain⟨d4,d6⟩:=gx (A3:=aV bP (Addr.mk ee 0 none) [vu e.1,vu e.2] 0) cC ba [vu e.1,vu e.2] rfl
  refine⟨d4,λbQ bb=>?_⟩
  obtain⟨k6,b6⟩:=d6 rfl
  rw[<-bb]at k6 b6
  have cY:bQ[ee]?=some (.cells #[vu e.1,vu e.2] 36 (0,0)):=k6
  have b2:=f.ext b6
  refine HC.mono (uC b2 av Q z.2) ?_
  rintro _ ds ⟨rfl,b7⟩
  refine⟨_,rfl,?_⟩
  have aj:=b2.ext b7
  by_cases E:(decide (lv=1) && reachedB t.old p.mem e.2)=true
  case neg=>
   rw[if_neg E]
   refine⟨⟨k+1,by omega,by omega,λj y=>?_,aj⟩,hd⟩
   rcases Nat.lt_or_ge j k with r | r
   ·exact aw j r
   ·obtain rfl:j=k:=by omega
    rintro⟨e',f1,f2,f3⟩
    rw[av]at f1;rw[Q]at f2
    cases f1;cases f2
    exact E (by rw[f3];rfl)
  rw[if_pos E]
  rw[Bool.and_eq_true,decide_eq_true_eq]at E
  obtain⟨rfl,S⟩:=E
  refine⟨_,_,_,by rw[aK aj.g4];rfl,_,rfl,⟨by omega,u⟩,?_⟩
  rw[show Int.toNat (k:Int)=k by omega]
  obtain⟨p1,p2⟩:=aj.mark m 2
  refine⟨p1,λaT bc=>?_⟩
  obtain⟨Y,ck⟩:=p2 aT bc
  have cQ:H.size<=X.size:=f.fr.size
  have l3:c3<X.size:=f.g3.lt c3 (by simp)
  have bk:ee≠c3:=by omega
  have a4:=ck.get (by simp;exact bk) (b7.get cY)
  have a7:=Y.small
  have cg:ee ∉ q.s::spB b:=λh=>by have:=a7 ee h;omega
  refine⟨_,by rw[aK Y.g0];rfl,e.1,by rw[aK a4];rfl,HC.mono (fq Y.tg z.1) ?_⟩
  rintro _ bS ⟨rfl,c8,cm⟩
  have a9:Fr (q.s::spB b) aT bS:=cm.mono (λi F _=>List.mem_cons_of_mem _ F)
  have Z:=Y.go c8 a9
  have ay:=a9.get cg a4
  refine⟨_,rfl,_,by rw[aK Z.g0];rfl,_,by rw[aK Z.g0];rfl,e.2,ig ay 1,HC.mono (fq Z.tg z.2) ?_⟩
  rintro _ dt ⟨rfl,c9,cn⟩
  have ak:=Z.go c9 (cn.mono (λi F _=>List.mem_cons_of_mem _ F))
  refine⟨_,rfl,iO ak.g0,HC.mono (sY ak.tg (Sp.visit_word Z.tg.ok z.2) (Sp.visit_word Y.tg.ok z.1)) ?_⟩
  rintro _ du ⟨cc,co⟩
  have al:=ak.go cc (co.mono (λi F _=>List.mem_cons_of_mem _ F))
  refine⟨_,by rw[aK al.g0];rfl,HC.mono (kf al.tg af cS) ?_⟩
  rintro _ bT ⟨s',d0,cI,cF,cd,bs,cp⟩
  have b3:=al.go cd cp
  refine⟨⟨s',d0,d.set k 2,.step bh av Q S aw cI cF,bs,b3⟩,?_⟩
  show nD bT c3<nD bO c3
  rw[b3.g3.ones,d1]
  have:=jP d Q
  omega
 rw[if_neg u]
 obtain rfl:k=l.length:=by omega
 refine⟨lB,l.length,lC,by rw[aK f.g2];rfl,λoB oN oC i A=> ∃k:Nat,i=k/\k<=l.length/\oN=((((l.zip d).take k).foldl (ga t.old t.tgt) (p,[])).2).length/\Own A 36 2 oB oN oC (evs (((l.zip d).take k).foldl (ga t.old t.tgt) (p,[])).2)/\(∀j∈blks oB,X.size<=j)/\oN<=k/\X.size<=A.size/\
   GdL H b {x with sp:=(((l.zip d).take k).foldl (ga t.old t.tgt) (p,[])).1} q {t with seen:=V} c c2 c3 c4 lB lC l d A,λ_ _ _ i _=>(l.length-i).toNat,⟨0,rfl,by omega,by rw[List.take_zero];rfl,by rw[List.take_zero];exact iB,λj y=>by simp at y,by omega,Nat.le_refl _,by rw[List.take_zero];exact f⟩,?_⟩
 rintro oB oN oC _ aZ ⟨k,rfl,hk,a3,ho,I,di,zA,a0⟩
 have dF:(l.zip d).length=l.length:=by rw[List.length_zip];have:=f.len;omega
 by_cases L:(k:Int)< (l.length:Int)
 case neg=>
  rw[if_neg L]
  obtain rfl:k=l.length:=by omega
  have cN:Own aZ 36 2 oB oN oC (evs (outG t.old t.tgt p l d).2):=by
   unfold outG
   rw[List.take_of_length_le (by omega)]at ho;exact ho
  have bl:oN=(outG t.old t.tgt p l d).2.length:=by
   unfold outG
   rw[List.take_of_length_le (by omega)]at a3;exact a3
  have S':GdL H b {x with sp:=(outG t.old t.tgt p l d).1} q {t with seen:=V} c c2 c3 c4 lB lC l d aZ:=by
   unfold outG
   rw[List.take_of_length_le (by omega)]at a0;exact a0
  have d8:=f.fr.size
  exact hR _ _ ⟨p,V,d,oB,oC,bh,aw,by rw[bl],by rw[<-bl];exact cN,λj y=>by have:=I j y;omega,S'.tg,af,S'.fr⟩
 rw[if_pos L]
 have m:k<l.length:=by omega
 have hd:((l.length:Int)-((k:Int)+1)).toNat< ((l.length:Int)-(k:Int)).toNat:=by omega
 rw[w64 (n:=(k:Int)+1) (by omega)]
 obtain⟨a,ha,hr⟩:=a0.row k m
 have cL:k<d.length:=by have:=f.len;omega
 have cT:(l.zip d).take (k+1)=(l.zip d).take k++[(l[k],d[k])]:=by rw[List.take_succ_eq_append_getElem (by omega),List.getElem_zip]
 have w:((l.zip d).take (k+1)).foldl (ga t.old t.tgt) (p,[])=ga t.old t.tgt (((l.zip d).take k).foldl (ga t.old t.tgt) (p,[])) (l[k],d[k]):=by rw[cT,List.foldl_append];rfl
 have Q:d[k]?=some d[k]:=List.getElem?_eq_getElem cL
 have z:=ax m
 generalize ((l.zip d).take k).foldl (ga t.old t.tgt) (p,[])=st at*
 generalize l[k]=e at*
 generalize d[k]=lv at*
 obtain⟨W,O⟩:=st
 refine⟨a,ha,⟨by omega,L⟩,e.1,e.2,by rw[show Int.toNat (k:Int)=k by omega];exact hr,λef bU cE bd=>?_⟩
 obtain⟨d5,d7⟩:=gx (A3:=aV bU (Addr.mk ef 0 none) [vu e.1,vu e.2] 0) cE bd [vu e.1,vu e.2] rfl
 refine⟨d5,λbV be=>?_⟩
 obtain⟨k7,P⟩:=d7 rfl
 rw[<-be]at k7 P
 have bu:bV[ef]?=some (.cells #[vu e.1,vu e.2] 36 (0,0)):=k7
 have M:=a0.ext P
 have ac:=ho.ext P
 have ek:Int.toNat (k:Int)=k:=by omega
 refine⟨_,_,_,by rw[aK M.g4];rfl,_,rfl,⟨by omega,L⟩,lv,by rw[ek];exact M.atMark Q,?_⟩
 by_cases h2:lv<2
 case neg=>
  rw[if_neg h2]
  have o:ga t.old t.tgt (W,O) (e,lv)=(W,O):=by unfold ga;rw[if_neg (λq=>h2 q.1)]
  exact⟨⟨k+1,by omega,by omega,by rw[w,o];exact a3,by rw[w,o];exact ac,I,by omega,by have:=P.size;omega,by rw[w,o];exact M⟩,hd⟩
 rw[if_pos h2]
 refine⟨_,by rw[aK M.g0];rfl,e.2,ig bu 1,HC.mono (fp M.tg.toTc z.2) ?_⟩
 rintro _ bW ⟨rfl,a1⟩
 refine⟨_,rfl,?_⟩
 rw[ji T.on]
 have N:=M.ext a1
 have ae:=ac.ext a1
 by_cases S:reachedB t.old W.mem e.2=true
 case neg=>
  rw[if_neg S]
  have o:ga t.old t.tgt (W,O) (e,lv)=(W,O):=by unfold ga;rw[if_neg (λq=>S q.2)]
  exact⟨⟨k+1,by omega,by omega,by rw[w,o];exact a3,by rw[w,o];exact ae,I,by omega,by have:=P.size;have:=a1.size;omega,by rw[w,o];exact N⟩,hd⟩
 rw[if_pos S]
 have o:ga t.old t.tgt (W,O) (e,lv)=(((W.visit t.old t.tgt e.1).1.visit t.old t.tgt e.2).1,O++[((W.visit t.old t.tgt e.1).2,((W.visit t.old t.tgt e.1).1.visit t.old t.tgt e.2).2)]):=by unfold ga;rw[if_pos ⟨h2,S⟩]
 have J:=a1.get bu
 refine⟨_,by rw[aK N.g0];rfl,e.1,by rw[aK J];rfl,_,by rw[aK N.g0];rfl,e.2,ig J 1,HC.mono (fq N.tg z.1) ?_⟩
 rintro _ b0 ⟨rfl,ce,cq⟩
 have K:Fr (q.s::spB b) bW b0:=cq.mono (λi F _=>List.mem_cons_of_mem _ F)
 have am:=N.go ce K
 have a7:=N.small
 have d8:=f.fr.size
 have dP:=a0.fr.size
 have ch:ef ∉ q.s::spB b:=λh=>by have:=a7 ef h;omega
 have az:=K.get ch J
 refine⟨_,rfl,iO am.g0,⟨ig az 1,trivial⟩,HC.mono (fq am.tg z.2) ?_⟩
 rintro _ b1 ⟨rfl,cf,cr⟩
 have a2:Fr (q.s::spB b) b0 b1:=cr.mono (λi F _=>List.mem_cons_of_mem _ F)
 have c6:=am.go cf a2
 refine⟨_,rfl,λe1 bX cw aa=>?_⟩
 have an:Ext b1 bX:=Ext.push' aa
 have g:=c6.ext an
 have bj: ∀j∈blks oB,j ∉ q.s::spB b:=λj y h=>by have:=a7 j h;have:=I j y;omega
 have bn:=((ae.keep K bj).keep a2 bj).ext an
 have dU:=g.fr.size
 have dT:=a2.size
 have dS:=K.size
 have dR:=a1.size
 have dQ:=P.size
 have dq:=an.size
 refine fU (ys:=[vu (W.visit t.old t.tgt e.1).2,vu ((W.visit t.old t.tgt e.1).1.visit t.old t.tgt e.2).2]) bn (iO (aO cw aa)) rfl rfl rfl (by omega) ?_
 intro B' c' bY bo D bm
 have G: ∀j∈blks oB,j≠c/\j≠c2/\j≠c3/\j≠c4/\j ∉ b.all/\j ∉ q.all/\j ∉ blks lB:=λj y=>by
  have dD:=I j y
  have l0:=bC f.g0
  have l2:=bC f.g2
  have l4:=bC f.g4
  have l3:c3<X.size:=f.g3.lt c3 (by simp)
  exact⟨by omega,by omega,by omega,by omega,λh=>by have:=f.all j (.inl h);omega,λh=>by have:=f.all j (.inr h);omega,λh=>by have:=(f.lb j h).1;omega⟩
 have c7:GdL H b {x with sp:=((W.visit t.old t.tgt e.1).1.visit t.old t.tgt e.2).1} q {t with seen:=V} c c2 c3 c4 lB lC l d bY:=
  ⟨g.tg.stay D (λj y=>(G j y).2.2.2.2.1) (λj y=>(G j y).2.2.2.2.2.1),D.get (λh=>(G _ h).1 rfl) g.g0,D.get (λh=>(G _ h).2.1 rfl) g.g2,D.get (λh=>(G _ h).2.2.2.1 rfl) g.g4,g.g3.keep D (λj y h=>(G j h).2.2.1 (by simpa using y)),g.row.keep D (λj y h=>(G j h).2.2.2.2.2.2 y),g.fr.trans' D (λi F _=>F) (λi F u=>by have:=I i F;omega),g.new,g.lb,g.all,g.len⟩
 refine⟨⟨k+1,by omega,by omega,by rw[w,o,List.length_append,a3];rfl,?_,λj y=>?_,by omega,by have:=D.size;omega,by rw[w,o];exact c7⟩,hd⟩
 ·rw[w,o,pH];exact bo
 ·rcases bm j y with h | h
  ·exact I j h
  ·omega
variable{d:Int}
def eQ(L:List (Int×Int)):Int:=match L with | []=>20 | e::_=>e.1
def fD:List (Int×Int)->Int
 | []=>20
 | [e]=>e.1
 | _::e::l=>fD (e::l)
structure QAt (m:Mem) (gd:Int) (L:List (Int×Int)):Prop where
 fld:m.fieldE gd 10 0=0/\m.fieldE gd 10 1=0
 f0:m.get (gd / 8+1)=eQ L
 f1:m.get (gd / 8+2)=fD L
 el: ∀l1 e l2,L=l1++e::l2->m.isPair e.1/\aC e.1/\(m.used (e.1 / 8+0)/\m.used (e.1 / 8+1))/\m.get (e.1 / 8)=e.2/\m.get (e.1 / 8+1)=eQ l2
 nd:(L.map Prod.fst).Nodup
theorem pK{m:Mem}{L:List (Int×Int)}(h: ∀e∈L,m.isPair e.1)(hn:L≠[]):eQ L≠20:=λq=>by
 cases L with
 | nil=>exact hn rfl
 | cons e l=>
  have:=h e (by simp)
  have q:e.1=20:=q
  rw[q]at this
  rcases this.1 with r | r
  ·exact absurd r.2.1 (by decide)
  ·exact absurd r.2.1 (by decide)
theorem pL{m:Mem}{L:List (Int×Int)}(h: ∀e∈L,m.isPair e.1):eQ L=20 ↔ L=[]:=by
 cases L with
 | nil=>exact⟨λ_=>rfl,λ_=>rfl⟩
 | cons e l=>
  have:=h e (by simp)
  refine⟨λq=>?_,λq=>by cases q⟩
  have q:e.1=20:=q
  rw[q]at this
  rcases this.1 with r | r
  ·exact absurd r.2.1 (by decide)
  ·exact absurd r.2.1 (by decide)
theorem iJ: ∀(e:Int×Int) (l:List (Int×Int)),∃x∈e::l,fD (e::l)=x.1
 | e,[]=>⟨e,by simp,rfl⟩
 | e,f::l=>by
  obtain⟨x,a,h⟩:=iJ f l
  exact⟨x,List.mem_cons_of_mem _ a,h⟩
theorem iY(c:List (Int×Int))(e:Int×Int)(a:List (Int×Int)):fD (c++e::a)=fD (e::a):=by
 induction c with
 | nil=>rfl
 | cons x l b=>
  rw[List.cons_append]
  cases h:l++e::a with
  | nil=>simp at h
  | cons y t=>rw[h]at b;exact b
theorem QAt.pair{m:Mem}{L:List (Int×Int)}(Q:QAt m d L): ∀e∈L,m.isPair e.1:=λe a=>by
 obtain⟨b,c,rfl⟩:=List.append_of_mem a
 exact(Q.el b e c rfl).1
theorem nE{m:Mem}{i:Int}(h:m.isPair d)(a:m.used (d / 8+i)):m.halfE d i=0:=by unfold Mem.halfE;rw[if_pos h,if_pos a]
set_option maxRecDepth 100000 in
theorem tZ{H:zV}{b:Blk}{x:Hp}{L:List (Int×Int)}(V:View H (some ⟨b.h,0,none⟩) (some (b,x)))(s:aC d)(Q:QAt x.sp.mem d L)(hL:L.length<=100000):
  bV.C (some ⟨b.h,0,none⟩) d H (λv S=> ∃B c,v=.tuple #[vs B L.length c,vT]/\Own S 28 1 B L.length c (wvs (L.map Prod.snd))/\(∀j∈blks B,H.size<=j)/\Ext H S):=by
 refine HC.via λR hR=>bV.link ?_
 unfold bV.pt
 have hm: ∀y:Hp,mof (some (b,y))=y.sp.mem:=λ_=>rfl
 obtain⟨g0,g1⟩:=Q.fld
 have N:=Q.pair
 refine HC.mono (kC V s (by decide)) ?_
 rw[hm,g0,if_pos rfl,Int.add_zero,Q.f0]
 rintro _ H1 ⟨rfl,U⟩
 refine⟨_,_,rfl,?_⟩
 refine HC.mono (kC (V.ext U) s (by decide)) ?_
 rw[hm,g1,if_pos rfl,show d / 8+1+1=d / 8+2 by omega,Q.f1]
 rintro _ H2 ⟨rfl,e2⟩
 have F:=U.trans e2
 refine⟨_,_,rfl,?_⟩
 have h0:(eQ L==20)=(fD L==20):=by
  cases L with
  | nil=>rfl
  | cons e l=>
   obtain⟨y,D,J⟩:=iJ e l
   have O:=pK N (by simp)
   have P:fD (e::l)≠20:=λq=>by
    rw[J]at q
    have:=(pL (m:=x.sp.mem) (L:=[y]) (by simp;exact N y D)).1 q
    cases this
   rw[beq_eq_false_iff_ne.2 O,beq_eq_false_iff_ne.2 P]
 rw[if_neg (by rw[h0];simp)]
 refine⟨λB n c p A=> ∃g a,L=g++a/\p=eQ a/\n=g.length/\Own A 28 1 B n c (wvs (g.map Prod.snd))/\(∀j∈blks B,H.size<=j)/\Ext H A,λ_ n _ _ _=>L.length-n,⟨[],L,rfl,rfl,rfl,iB,λj t=>by simp at t,F⟩,?_⟩
 rintro B n c p A ⟨g,a,i,rfl,rfl,X,G,o⟩
 have z: ∀e∈a,x.sp.mem.isPair e.1:=λe he=>N e (by rw[i];exact List.mem_append_right _ he)
 by_cases E:eQ a=20
 ·rw[if_pos E]
  have:=(pL z).1 E
  subst this
  rw[List.append_nil]at i
  subst i
  exact hR _ _ ⟨B,c,rfl,X,G,o⟩
 rw[if_neg E]
 cases a with
 | nil=>exact absurd rfl E
 | cons e a=>
  obtain⟨Y,Z,⟨u1,u2⟩,k3,k4⟩:=Q.el g e a i
  rw[show eQ (e::a)=e.1 from rfl]
  refine HC.mono (kD (V.ext o) Z) ?_
  rw[hm,nE Y u1,if_pos rfl,Int.add_zero,k3]
  rintro _ A1 ⟨rfl,T⟩
  refine⟨_,_,rfl,?_⟩
  refine HC.mono (rI (V.ext (o.trans T)) Z) ?_
  rw[hm,nE Y u2,if_pos rfl,k4]
  rintro _ A2 ⟨rfl,a2⟩
  refine⟨_,_,rfl,?_⟩
  have W:L.length=g.length+(a.length+1):=by rw[i,List.length_append,List.length_cons]
  have K:(eQ a==20)=(e.1==fD L):=by
   rw[i,iY]
   cases a with
   | nil=>show(20==20)=(e.1==e.1);simp
   | cons f a=>
    have O:=pK (m:=x.sp.mem) (L:=f::a) (λy D=>z y (List.mem_cons_of_mem _ D)) (by simp)
    obtain⟨y,D,J⟩:=iJ f a
    have P:e.1≠fD (e::f::a):=λq=>by
     have q:e.1=fD (f::a):=q
     have u:=Q.nd
     rw[i,List.map_append,List.map_cons]at u
     have:=(List.nodup_append.1 u).2.1
     rw[List.nodup_cons]at this
     exact this.1 (by rw[q,J];exact List.mem_map_of_mem D)
    rw[beq_eq_false_iff_ne.2 O,beq_eq_false_iff_ne.2 P]
  rw[if_neg (by
   rw[show eQ a=eQ a from rfl,K]
   have: ¬((g.length:Int)>100000):=by omega
   simp[this])]
  intro b6 H6 I r
  have e6:Ext A2 H6:=Ext.push' r
  have k:=(T.trans a2).trans e6
  refine fU (ys:=wvs [e.2]) (X.ext k) (gK (aO I r) _ 0 0 (λj t=>by
   simp only[wvs,List.map_cons,List.map_nil,List.length_cons,List.length_nil]at t
   obtain rfl:j=0:=by omega
   rfl)) rfl (jB _) rfl (by omega) ?_
  intro B' c' H7 w f7 M
  have zA:=o.size
  have ag:=k.size
  refine⟨⟨g++[e],a,by rw[i];simp,rfl,by simp,?_,λj t=>?_,(o.trans k).fr_trans f7 G⟩,by show L.length-(g.length+1)<L.length-g.length;omega⟩
  ·unfold wvs at w⊢
   rw[List.map_append,List.map_append];exact w
  ·rcases M j t with q | q
   ·exact G j q
   ·omega
variable{d:Int}{i:Nat->Nat}{j:Blk}{k:Int->Nat}{o:Nat}{H u:zV}
structure Cap0 (F0:Int) (s:Sp) (u:Nat->Nat):Prop where
 ex: ∃c:Nat->Nat,s.mem.free+((c 0:Nat)+(c 1:Nat)+(c 2:Nat)+(c 3:Nat):Int)=F0/\(∀k,k<4->s.cur 0 k=0->c k=0)/\ ∀k,k<4->64*(c k:Int)+s.fill 0 k<=(u k:Int)+64
 gen: ∀k:Nat,(s.mem.seg k).taken≠0->(s.mem.seg k).gen=0
 lim:(s.mem.limit:Int)=F0
theorem Cap0.same{s:Sp}(h:Cap0 d s i){m:Mem}(hm:aY s.mem m):Cap0 d {s with mem:=m} i:=by
 obtain⟨c,a,b,e⟩:=h.ex
 refine⟨⟨c,?_,b,λk hk=>?_⟩,λk hk=>?_,?_⟩
 ·show m.free+_=d
  rw[hm.free];exact a
 ·rw[Sp.fill_same hm];exact e k hk
 ·show(m.seg k).gen=0
  rw[(hm.seg k).1];exact h.gen k (by rw[<-(hm.seg k).2.2.2.1];exact hk)
 ·show(m.limit:Int)=d
  rw[hm.limit];exact h.lim
theorem Cap0.alloc{s:Sp}(h:Cap0 d s i)(p:SpOK s){n:Nat}(hk:o<4)(w:(s.alloc 0 o n).2.2=0):Cap0 d (s.alloc 0 o n).1 (λj=>if j=o then i j+2*n else i j):=by
 obtain⟨c,C,q,y⟩:=h.ex
 obtain⟨F,z,r,k,t⟩:=Sp.alloc_fill p w
 obtain⟨_,m⟩:=Sp.alloc_ok p w
 generalize B:(s.alloc 0 o n).1=x at*
 generalize D:(s.alloc 0 o n).2.1=b at*
 have u:((0:Int)).toNat=0:=rfl
 have v:((o:Int)).toNat=o:=by omega
 rw[u,v]at r t
 rw[u,v]at k
 refine⟨⟨λj=>c j+if j=o then F else 0,?_,λj a f=>?_,λj a=>?_⟩,λj a=>?_,?_⟩
 ·show x.mem.free+_=d
  rw[z]
  have:o=0\/o=1\/o=2\/o=3:=by omega
  rcases this with rfl | rfl | rfl | rfl<;>simp<;>omega
 ·show c j+(if j=o then F else 0)=0
  by_cases e:j=o
  ·rw[e]at f;exact absurd f r
  ·rw[(k j e).1]at f
   rw[if_neg e,q j a f]
 ·show 64*((c j+(if j=o then F else 0):Nat):Int)+x.fill 0 j<=((if j=o then i j+2*n else i j:Nat):Int)+64
  have A:=y j a
  by_cases e:j=o
  ·subst e
   rw[if_pos rfl,if_pos rfl]
   have E:=Sp.fill_rng p 0 j
   rcases t with⟨rfl,_,l⟩ | ⟨rfl,g,l⟩
   ·rw[l];omega
   ·rw[l]
    rcases g with g | g
    ·have:=q j a g
     omega
    ·omega
  ·rw[if_neg e,if_neg e,(k j e).2];omega
 ·by_cases e:j=(b / 64).toNat
  ·rw[e];exact m.new.2.1
  ·rw[m.others j e]at a⊢;exact h.gen j a
 ·rw[m.limit];exact h.lim
theorem Cap0.put{s:Sp}(h:Cap0 d s i)(o:SpOK s){k:Nat}{tag:Int}{ws:List Int}(hk:k<4):Cap0 d (s.put k tag ws).1 (λj=>if j=k then i j+2*ws.length else i j):=by
 unfold Sp.put
 split
 ·rename_i m
  exact(h.alloc o hk m).same (aY.sets _ _ _)
 ·obtain⟨c,a,b,g⟩:=h.ex
  refine⟨⟨c,a,b,λj n=>?_⟩,h.gen,h.lim⟩
  have l:64*(c j:Int)+s.fill 0 j<=(i j:Int)+64:=g j n
  show 64*(c j:Int)+s.fill 0 j<=((if j=k then i j+2*ws.length else i j:Nat):Int)+64
  generalize s.fill 0 j=f at*
  by_cases e:j=k
  ·rw[if_pos e];omega
  ·rw[if_neg e];exact l
theorem Cap0.free{s:Sp}(h:Cap0 d s i)(b:SpOK s):d-((i 0 / 64+i 1 / 64+i 2 / 64+i 3 / 64+4:Nat):Int)<=s.mem.free:=by
 obtain⟨c,e,f,a⟩:=h.ex
 have g:=Sp.fill_rng b 0 0
 have j:=Sp.fill_rng b 0 1
 have k:=Sp.fill_rng b 0 2
 have l:=Sp.fill_rng b 0 3
 have m:=a 0 (by decide)
 have n:=a 1 (by decide)
 have o:=a 2 (by decide)
 have p:=a 3 (by decide)
 omega
theorem Cap0.fresh(n:Nat):Cap0 n ⟨Mem.fresh n,λ_ _=>0⟩ (λ_=>0):=by
 refine⟨⟨λ_=>0,?_,λ_ _ _=>rfl,λk _=>?_⟩,λk hk=>absurd rfl hk,rfl⟩
 ·show((n:Int))+_=_
  simp
 ·show 64*((0:Nat):Int)+Sp.fill _ 0 k<=_
  unfold Sp.fill
  rw[if_pos rfl];omega
structure Bd (H0 H:zV) (b:Blk) (x:Hp) (sz:Int->Nat) (F0:Int) (u:Nat->Nat):Prop where
 live:Live H0 H b x
 inv:Inv x.sp sz
 cap:Cap0 F0 x.sp u
 cf:x.sp.cf=F0
def WG(x:Hp)(sz:Int->Nat)(w:Int):Prop:=aC w/\Good x.sp.mem sz w
structure Bdd (x:Hp) (sz:Int->Nat) (x':Hp) (sz':Int->Nat) (w:Int):Prop where
 lift:Lift x.sp.mem sz x'.sp.mem sz'
 new:WG x' sz' w
theorem Bd.pair{x:Hp}(B:Bd H u j x k d i){a y:Int}(hk:o<=1)(l:WG x k a)(m:WG x k y)(q:1<=x.sp.mem.free):
  ∃(w:Int) (c:Hp) (b:Int->Nat),putR (some (j,x)) o (o+1) [a,y]=(w,0)/\putO (some (j,x)) o (o+1) [a,y]=some (j,c)/\sL x c w (o+1) a y/\Inv c.sp b/\Cap0 d c.sp (λz=>if z=o then i z+4 else i z)/\c.sp.cf=d/\Bdd x k c b w:=by
 obtain⟨w,c,f,g,hm⟩:=rK B.live B.inv.even (tag:=o+1) (by omega) l.1 m.1 q
 rw[show((o:Int)+1-1)=o by omega]at f g
 have p:some (j,({x with sp:=(x.sp.put o (o+1) [a,y]).1}:Hp))=some (j,c):=g
 cases p
 have n:(x.sp.put o (o+1) [a,y]).2=(w,0):=f
 obtain⟨b,r,s,t,v⟩:=B.inv.put (kind:=o) (tag:=o+1) (ws:=[a,y]) (by omega) (by
  have:o=0\/o=1:=by omega
  rcases this with rfl | rfl<;>rfl) (λw e=>by simp at e;rcases e with rfl | rfl;exact l.1;exact m.1) (λ_=>rfl) (λh=>by omega) (λ_ w e=>by simp at e;rcases e with rfl | rfl;exact l.2;exact m.2)
 refine⟨w,_,b,f,g,hm,r,B.cap.put B.live.ok (ws:=[a,y]) (by omega),v.trans B.cf,s,?_⟩
 have:=t (by rw[n])
 rw[n]at this
 exact this
theorem Bd.count{x:Hp}(B:Bd H u j x k d i)(h:d<4611686018427387904):x.sp.mem.count<4611686018427387904:=Sp.cf_count B.live.ok (by rw[B.cf];exact h)
theorem Bd.guardian{x:Hp}{m:Int->Nat}(B:Bd H u j x m d i)(A:1<=x.sp.mem.free)(z:d<4611686018427387904){t:zW}(D:gc u t (wvs [20,20])):
  dK.C (some ⟨j.h,0,none⟩) 10 0 t 2 o u (λv p=> ∃(w:Int) (l:Hp) (a:Int->Nat),v=.tuple #[vu w,vi 0]/\Bd H p j l a d (λL=>if L=2 then i L+6 else i L)/\ib l.sp.mem w 10 0 [20,20]/\Made x.sp.mem l.sp.mem w 2/\Bdd x m l a w/\Fr j.all u p):=by
 have c: ∀w∈[(20:Int),20],aC w:=λw b=>by simp at b;rw[b];decide
 refine HC.mono (j9 (ws:=[20,20]) B.live.view D rfl c (by decide) (by decide) (B.count z) (by decide)) ?_
 rintro _ K ⟨rfl,V,f⟩
 obtain⟨w,l,q,r,hm⟩:=rJ B.live (kind:=10) (more:=0) (by decide) (by decide) (by decide) c A
 obtain⟨J,y⟩:=oc j x 10 0 [20,20]
 rw[y]at r
 cases r
 have e:x.sp.make 10 0 [20,20]=x.sp.put 2 3 [597,20,20]:=rfl
 have s:(x.sp.put 2 3 [597,20,20]).2=(w,0):=by rw[<-e,<-J];exact q
 have n:Good x.sp.mem m 20:=⟨by decide,λh=>absurd h (by decide)⟩
 have g:Good x.sp.mem m 597:=⟨by decide,λh=>absurd h (by decide)⟩
 obtain⟨a,E,F,G,I⟩:=B.inv.put (kind:=2) (tag:=3) (ws:=[597,20,20]) (by decide) rfl (λw b=>by simp at b;rcases b with rfl | rfl<;>decide) (λh=>absurd h (by decide)) (λ_=>⟨597,[20,20],rfl,by decide,by decide,by decide⟩) (λ_ w b=>by simp at b;rcases b with rfl | rfl;exact g;exact n)
 rw[y]at V
 refine⟨w,_,a,by rw[q],⟨B.live.step V f,?_,?_,?_⟩,hm.thing,hm.made,⟨?_,?_⟩,Live.others f⟩
 ·show Inv (x.sp.make 10 0 [20,20]).1 a
  rw[e];exact E
 ·show Cap0 d (x.sp.make 10 0 [20,20]).1 _
  rw[e];exact B.cap.put B.live.ok (k:=2) (ws:=[597,20,20]) (by decide)
 ·show(x.sp.make 10 0 [20,20]).1.cf=d
  rw[e];exact I.trans B.cf
 ·show Lift _ _ (x.sp.make 10 0 [20,20]).1.mem a
  rw[e];exact F
 ·have:=G (by rw[s])
  rw[s]at this
  show aC w/\Good (x.sp.make 10 0 [20,20]).1.mem a w
  rw[e];exact this
def iQ(m:Mem)(tag:Int):List (Int×Int)->Prop
 | []=>True
 | e::l=>Pr m e.1 tag e.2 (eQ l)/\iQ m tag l
theorem iQ.keep{m a:Mem}(k:Keep m a): ∀{l:List (Int×Int)},iQ m d l->iQ a d l
 | [],_=>trivial
 | e::l,h=>⟨h.1.keep k,h.2.keep k⟩
theorem iQ.mem{m:Mem}{tag:Int}: ∀{l:List (Int×Int)},iQ m tag l-> ∀(b a:List (Int×Int)) (e:Int×Int),l=b++e::a->Pr m e.1 tag e.2 (eQ a)
 | [],_,b,a,e,h=>by simp at h
 | d::l,h,[],a,e,q=>by
  rw[List.nil_append]at q
  cases q;exact h.1
 | d::l,h,c::b,a,e,q=>by
  rw[List.cons_append]at q
  cases q;exact iQ.mem h.2 b a e rfl
theorem ti{m:Mem}{sz:Int->Nat}(S:gG m sz)(j:aX m){w a:Int}(v:aC w)(r:Good m sz w)(u:a=1\/a=2)(h:w % 8=a):Pr m w a (m.get (w / 8)) (m.get (w / 8+1)):=by
 have e:isTag w:=by unfold isTag;omega
 obtain⟨d,c⟩:=r.2 e
 have s:0<=m.kAt (w / 8)/\m.kAt (w / 8)<=3:=(j.seg (w / 8 / 64).toNat).kind
 have hk:m.kAt (w / 8)=a-1:=by
  rw[h]at c
  unfold tagK at c
  by_cases o:m.kAt (w / 8)=0
  ·rw[if_pos o]at c;omega
  ·rw[if_neg o]at c
   by_cases p:m.kAt (w / 8)=1
   ·rw[if_pos p]at c;omega
   ·rw[if_neg p]at c;omega
 obtain⟨x,q⟩:=S.two _ d (by omega)
 have hn: ∀k,(m.seg k).n<=64:=λk=>(j.seg k).n.2
 have b:m.used (w / 8):=by simpa using(S.usedAt d (i:=0) (by omega) hn).1
 have f:m.used (w / 8+1):=(S.usedAt d (i:=1) (by omega) hn).1
 have l:=j.lim
 have t:=b.2.1.2.1
 exact⟨v,u,⟨⟨by omega,by omega⟩,h,b.2.1,hk,b.2.2⟩,q,f,rfl,rfl⟩
section
variable {Z:TZ} {g F0:Int} {fw:Int->Option Int} {al:List Int} {s3 s4 s5:Sp} {sz:Int->Nat} {tr:Tr} {s0:Sp}
def cV(O:Nat->Bool)(fw:Int->Option Int)(tag a:Int):Int:=if tag=2/\aG O a/\fw (a / 8)=none then 44 else Fw O fw a
theorem gq.pr(C:gq Z s0 g tr fw al sz s3 s4 s5){w c a d:Int}(h:Pr Z.m w c a d)(u:Good Z.m Z.sz w)(A:aG Z.O w)(p:Dn Z.O fw w)(K: ∀b,fw (w / 8)=some b->Z.q b=none/\Z.q (b+1)=none):
  Pr s5.mem (Fw Z.O fw w) c (cV Z.O fw c a) (Fw Z.O fw d)/\Dn Z.O fw d/\(c=1->Dn Z.O fw a):=by
 obtain⟨b,n⟩:=p A
 have v:=h.at'.2.1
 have k:=h.istag
 have B:isTag w:=by unfold isTag;omega
 obtain⟨F,H,-⟩:=C.t.good h.word u p
 obtain⟨f,-,G,-⟩:=H B
 obtain⟨I,-,-⟩:=C.t.tri.goodFw C.t.S h.word u p
 have e:Fw Z.O fw w=b*8+w % 8:=fy A n
 have o:Fw Z.O fw w / 8=b:=by rw[e];omega
 have P:=ti C.inv.sound C.inv.ok.mem I F k (by rw[lm];exact v)
 rw[o]at P f G
 have s:b % 2=0:=by have:=P.even;rw[o]at this;exact this
 have x:s5.mem.used (b+1):=by have:=P.used;rw[o]at this;exact this
 have J:Z.m.kAt (w / 8)=c-1:=h.at'.2.2.2.1
 have L:Z.sz (w / 8)=2:=(C.t.S.sound.two _ (u.2 B).1 (by omega)).1
 obtain⟨M,N⟩:=K b n
 have z:Was Z fw b a:=.inr ⟨M,.inr ⟨w / 8,b,0,n,by omega,by simp,by rw[<-h.car];simp⟩⟩
 have E:Was Z fw (b+1) d:=.inr ⟨N,.inr ⟨w / 8,b,1,n,by omega,rfl,by rw[<-h.cdr];rfl⟩⟩
 have R:=f.1
 have T:=(C.t.kind f).1
 have U:=(C.t.kind x).1
 have V:s5.mem.kAt (b+1)=s5.mem.kAt b:=by unfold Mem.kAt;rw[show(b+1) / 64=b / 64 by omega]
 have j:s5.mem.get (b+1)=Fw Z.O fw d/\Dn Z.O fw d:=by
  rcases C.t.get E with⟨l,y⟩ | ⟨_,_,r⟩
  ·rw[if_neg (by omega)]at l
   exact⟨l,y (by omega)⟩
  ·omega
 have i:s5.mem.get b=cV Z.O fw c a/\(c=1->Dn Z.O fw a):=by
  unfold cV
  rcases k with rfl | rfl
  ·rw[if_neg (λq=>absurd q.1 (by decide))]
   rcases C.t.get z with⟨l,y⟩ | ⟨_,r,_⟩
   ·rw[if_neg (by omega)]at l
    exact⟨l,λ_=>y (by omega)⟩
   ·omega
  ·obtain⟨Q,D⟩:=C.t.used.1 f
   refine⟨?_,λq=>absurd q (by decide)⟩
   rw[(C.t.ended.get D).1,C.brk.exact b a Q D (by omega) s z]
   by_cases q:aG Z.O a/\fw (a / 8)=none
   ·rw[if_pos q,if_pos ⟨rfl,q⟩]
   ·rw[if_neg q,if_neg (λr=>q r.2)]
 rw[i.1,j.1]at P
 exact⟨P,j.2,i.2⟩
theorem pM{O:Nat->Bool}:Fw O fw 20=20:=ft (λo=>absurd o.1.1 (by decide))
theorem rU{O:Nat->Bool}(c:Int->Int)(l:List (Int×Int)):eQ (l.map λe=>(Fw O fw e.1,c e.2))=Fw O fw (eQ l):=by
 cases l with
 | nil=>exact pM.symm
 | cons e l=>rfl
theorem gq.row(C:gq Z s0 g tr fw al sz s3 s4 s5){a:Int}: ∀{l:List (Int×Int)},iQ Z.m a l->(∀e∈l,Good Z.m Z.sz e.1/\aG Z.O e.1/\ ∀b,fw (e.1 / 8)=some b->Z.q b=none/\Z.q (b+1)=none)->Dn Z.O fw (eQ l)->
  iQ s5.mem a (l.map λe=>(Fw Z.O fw e.1,cV Z.O fw a e.2))/\ ∀e∈l,Dn Z.O fw e.1
 | [],_,_,_=>⟨trivial,λe j=>by cases j⟩
 | e::l,h,hl,hd=>by
  obtain⟨d,f,i⟩:=hl e (by simp)
  obtain⟨k,n,_⟩:=C.pr h.1 d f hd i
  obtain⟨o,p⟩:=gq.row C h.2 (λx c=>hl x (List.mem_cons_of_mem _ c)) n
  refine⟨⟨?_,o⟩,λx c=>?_⟩
  ·rw[rU];exact k
  ·rcases List.mem_cons.1 c with rfl | c
   ·exact hd
   ·exact p x c
theorem uD(S:aW Z g F0)(d: ∀k:Nat,(Z.m.seg k).taken≠0->(Z.m.seg k).gen=0){x:Int}(a:Z.m.used x):Z.O (x / 64).toNat=true:=by
 have b:=S.lt a
 have c:=S.rng
 refine(S.old _ b.1).2 ⟨by rw[show((((x:Int) / 64).toNat:Nat):Int)=(x:Int) / 64 by omega];exact a.2.1,?_⟩
 rw[d _ a.2.1.2.2];exact c.1
structure WbAt (m:Mem) (sz:Int->Nat) (p gd:Int) (Ls Wk:List (Int×Int)):Prop where
 young: ∀k:Nat,(m.seg k).taken≠0->(m.seg k).gen=0
 ls:iQ m 1 Ls
 lsg: ∀e∈Ls,Good m sz e.1
 lsv: ∀e∈Ls,¬isTag e.2
 pr:Pr m p 1 12 (eQ Ls)
 pg:Good m sz p
 gr:ib m gd 10 0 [20,20]
 gg:Good m sz gd
 wk:iQ m 2 Wk
 wkg: ∀e∈Wk,Good m sz e.1
 wkv: ∀e∈Wk,e.2=p
 nd:(Wk.map Prod.fst).Nodup
theorem pN{O:Nat->Bool}{l a:List (Int×Int)}(b: ∀e∈l,e∈a)(h:aG O (eQ l)): ∃e∈a,eQ l / 8=e.1 / 8:=by
 cases l with
 | nil=>exact absurd h.1.1 (by decide)
 | cons e l=>exact⟨e,b e (by simp),rfl⟩
theorem WbAt.three{m:Mem}{sz:Int->Nat}{p a:Int}{i j:List (Int×Int)}(A:WbAt m sz p a i j)(S:gG m sz):sz (a / 8)=3/\m.kAt (a / 8)=2/\isTag a/\a % 8=3:=by
 have e:=A.gr.obj.1.2.1
 have f:isTag a:=by unfold isTag;omega
 obtain⟨n,b⟩:=A.gg.2 f
 have c:2<=m.kAt (a / 8):=by
  rw[e]at b
  unfold tagK at b
  split at b
  ·omega
  ·split at b
   ·omega
   ·rename_i t u
    have:0<=m.kAt (a / 8):=by
     rcases Int.lt_or_le (m.kAt (a / 8)) 0 with q | q
     ·have:=A.gr.obj
      exfalso
      have h:=A.gr.obj.1.2.2.2.1
      have o:rawK (hk (m.get (a / 8)))=2:=by rw[A.gr.kindEq];rfl
      unfold Mem.kAt at q
      omega
     ·exact q
    omega
 obtain⟨s,r,d⟩:=S.obj _ n c
 have k:=A.gr.kindEq
 have l:=A.gr.lenEq
 refine⟨?_,?_,f,e⟩
 ·rw[l]at d
  have:((2:Nat):Int)=2:=rfl
  have d:(sz (a / 8):Int)=((2:Nat):Int)+1:=d
  omega
 ·rw[r,k];rfl
theorem WbAt.reach{p c:Int}{r j:List (Int×Int)}(A:WbAt Z.m Z.sz p c r j)(S:aW Z g F0)(u: ∀v,Z.V v->v=eQ j\/v=c){a:Int}(h:Reach Z a):(∃e∈j,a=e.1 / 8)\/a=c / 8:=by
 induction h with
 | root y b=>
  rcases u _ y with rfl | rfl
  ·exact .inl (pN (λe f=>f) b)
  ·exact .inr rfl
 | older w hn l b=>rw[uD S A.young w]at hn;cases hn
 | @step a i h G l b B=>
  rcases B with⟨e,f,rfl⟩ | rfl
  ·obtain⟨C,D,o⟩:=List.append_of_mem f
   have P:=A.wk.mem C D e o
   have hk:Z.m.kAt (e.1 / 8)=1:=P.at'.2.2.2.1
   have n:isTag e.1:=by have:=P.at'.2.1;unfold isTag;omega
   have H:=S.sound.two _ ((A.wkg e f).2 n).1 (by omega)
   have:i=0\/i=1:=by omega
   rcases this with rfl | rfl
   ·exfalso
    have k:e.1 / 8+((0:Nat):Int)=e.1 / 8:=by simp
    rw[k]at l
    rcases l.2 with q | q
    ·exact q hk
    ·omega
   ·have d:e.1 / 8+((1:Nat):Int)=e.1 / 8+1:=rfl
    rw[d,P.cdr]at b⊢
    exact .inl (pN (λx z=>by rw[o];exact List.mem_append_right _ (List.mem_cons_of_mem _ z)) b)
  ·exfalso
   obtain⟨J,I,n,E⟩:=A.three S.sound
   have s:=A.gr.get 0 (by decide)
   have t:=A.gr.get 1 (by decide)
   have:i=0\/i=1\/i=2:=by omega
   rcases this with rfl | rfl | rfl
   ·have F:=(S.sound.obj _ (A.gg.2 n).1 (by omega)).1.1
    have k:c / 8+((0:Nat):Int)=c / 8:=by simp
    rw[k]at b
    have:=b.1.1
    omega
   ·have d:c / 8+((1:Nat):Int)=c / 8+1+((0:Nat):Int):=by simp
    rw[d,s]at b
    exact absurd b.1.1 (by decide)
   ·have d:c / 8+((2:Nat):Int)=c / 8+1+((1:Nat):Int):=by omega
    rw[d,t]at b
    exact absurd b.1.1 (by decide)
end
def wn0:Sp:=⟨Mem.fresh 40,λ_ _=>0⟩
def wn1:Sp:=(wn0.put 2 3 [597,20,20]).1
def wn2:Sp:=(wn1.put 0 1 [8,20]).1
def wn3:Sp:=(wn2.put 1 2 [513,20]).1
def wnO:Nat->Bool:=wn3.mem.young 0
def wn4:Sp:=wn3.fresh (eM 0)
def wn5:Sp:=(wn4.visit wnO 0 3).1
def wn6:Sp:=(wn5.visit wnO 0 1026).1
def wn7:Sp:=((wn6.visit wnO 0 513).1.visit wnO 0 1539).1.putsG 0 ((wn6.visit wnO 0 513).1.visit wnO 0 1539).2 (wn6.visit wnO 0 513).2
def wn8:Sp:={wn7 with mem:=brkR wnO wn7.mem 256}
def wn9:Sp:=wn8.gives wnO 1024
theorem wn_1:(wn0.put 2 3 [597,20,20]).2=(3,0):=by kernel_rfl
theorem wn_2:(wn1.put 0 1 [8,20]).2=(513,0):=by kernel_rfl
theorem wn_3:(wn2.put 1 2 [513,20]).2=(1026,0):=by kernel_rfl
theorem uN:wn0.cf=40/\wn1.cf=40/\wn2.cf=40/\wn3.cf=40:=⟨by kernel_rfl,by kernel_rfl,by kernel_rfl,by kernel_rfl⟩
theorem pO:wn1.mem.count=1/\wn2.mem.count=2:=⟨by kernel_rfl,by kernel_rfl⟩
theorem wn_s:ic wn3 0 0 1=0:=by kernel_rfl
theorem wn_5:(wn4.visit wnO 0 3).2=1539:=by kernel_rfl
theorem wn_6:(wn5.visit wnO 0 1026).2=2050:=by kernel_rfl
def lM(old:Nat->Bool)(T:Int)(m:Mem):Bool:=(List.range 40).all λk:Nat=>(List.range 64).all λi:Nat=>decide (m.has k->(m.seg k).gen=T->old k=false->(i:Int)< (m.seg k).n->looks (m.seg k).kind i-> ¬aG old (m.read ((k:Int)*64+i)))
theorem t7:lM wnO 0 wn6.mem=true:=by kernel_rfl
theorem t8:decide (aG wnO 513)=true/\wn6.mem.fwd 513=none/\decide (aG wnO 1539)=false:=⟨by kernel_rfl,by kernel_rfl,by kernel_rfl⟩
theorem ub:lM wnO 0 wn7.mem=true:=by kernel_rfl
theorem uO:wn7.mem.takenTo [0] wn7.mem.limit=[0,1,2,3,4,5]:=by kernel_rfl
theorem uE:(wn7.mem.seg 0).taken=1/\(wn7.mem.seg 1).taken=2/\(wn7.mem.seg 2).taken=3/\(wn7.mem.seg 3).taken=4/\(wn7.mem.seg 4).taken=5/\(wn7.mem.seg 5).taken=6:=⟨by kernel_rfl,by kernel_rfl,by kernel_rfl,by kernel_rfl,by kernel_rfl,by kernel_rfl⟩
theorem uF:(wn7.mem.seg 0).kind=2/\(wn7.mem.seg 1).kind=0/\(wn7.mem.seg 3).kind=2/\(wn7.mem.seg 4).kind=1/\(wn7.mem.seg 5).kind=0/\(wn7.mem.seg 4).n=2/\wnO 2=true/\wnO 4=false:=⟨by kernel_rfl,by kernel_rfl,by kernel_rfl,by kernel_rfl,by kernel_rfl,by kernel_rfl,by kernel_rfl,by kernel_rfl⟩
theorem wn_q:wn9.mem.fieldE 1539 10 0=0/\wn9.mem.get (1539 / 8+1+0)=2577:=⟨by kernel_rfl,by kernel_rfl⟩
theorem wn_a:wn9.mem.halfE 2577 0=0/\wn9.mem.get (2577 / 8+0)=2561:=⟨by kernel_rfl,by kernel_rfl⟩
theorem wn_b:wn9.mem.halfE 2050 0=0/\wn9.mem.get (2050 / 8+0)=2561:=⟨by kernel_rfl,by kernel_rfl⟩
theorem wn_c:wn9.mem.halfE 2561 0=0/\wn9.mem.get (2561 / 8+0)=8:=⟨by kernel_rfl,by kernel_rfl⟩
theorem nF{old:Nat->Bool}{T:Int}{m:Mem}(g:m.limit=40)(f:aX m)(h:lM old T m=true):rn old T m:=by
 intro k i hk
 have a:k<40:=by have:=hk.2.1;omega
 unfold lM at h
 rw[List.all_eq_true]at h
 have b:=h k (List.mem_range.2 a)
 rw[List.all_eq_true]at b
 intro c e d
 have hn:=(f.seg k).n
 exact of_decide_eq_true (b i (List.mem_range.2 (by omega))) hk c e d
theorem ox(f:Nat->Int): ∀(L l:List Nat),l.Perm L->l.Pairwise (λi j=>f i<=f j)->L.Pairwise (λi j=>f i<f j)->l=L
 | [],l,h,_,_=>h.eq_nil
 | a::L,[],h,_,_=>absurd h.length_eq (by simp)
 | a::L,b::l,h,h1,h2=>by
  rw[List.pairwise_cons]at h1 h2
  have k:b∈a::L:=h.subset (by simp)
  have g:a∈b::l:=h.symm.subset (by simp)
  have d:b=a:=by
   rcases List.mem_cons.1 k with e | e
   ·exact e
   ·have m:=h2.1 b e
    rcases List.mem_cons.1 g with c | c
    ·exact c.symm
    ·have:=h1.1 a c;omega
  subst d
  rw[ox f L l (List.perm_cons b |>.1 h) h1.2 h2.2]
theorem Sp.put_even'{s:Sp}(g:SpOK s)(c:s.mem.Even)(a b:Int)(d:List Int)(h:a<=1->(d.length:Int) % 2=0):(s.put a b d).1.mem.Even:=by
 unfold Sp.put
 split
 ·rename_i f
  obtain⟨_,e⟩:=Sp.alloc_ok g f
  exact(aY.sets _ _ _).even (e.even c h).1
 ·exact c
theorem qI{m:Mem}{g:Int}{l:List Nat}(h: ∀k:Nat,m.has k->(m.seg k).gen<=g)(b:cU m [] l):m.dirtyOf g l=[]:=by
 rw[List.eq_nil_iff_forall_not_mem]
 intro c a
 obtain⟨k,hk,i,f,rfl,d,e⟩:=Mem.mem_dirty.1 a
 have:=h k (b.has hk).1
 omega
theorem uG:(List.range 40).all (λk:Nat=>decide ((wn3.mem.seg k).gen<=0))=true:=by kernel_rfl
theorem tj:wn3.mem.limit=40/\wn6.mem.limit=40/\wn7.mem.limit=40:=⟨by kernel_rfl,by kernel_rfl,by kernel_rfl⟩
theorem uc:decide (wn3.mem.has 4)=false:=by kernel_rfl
theorem uP:([0,1,2,3,4,5]:List Nat).Pairwise (λi j=>(wn7.mem.seg i).taken< (wn7.mem.seg j).taken):=by
 obtain⟨a,b,c,d,e,f⟩:=uE
 simp only[List.pairwise_cons,List.mem_cons,List.not_mem_nil,or_false,forall_eq_or_imp,forall_eq,a,b,c,d,e,f]
 simp
theorem tl{t:Tr}(b:t.old=wnO)(d:t.cards=[])(f:seenAt t.frm 4=0){l:List Nat}(a:cU wn7.mem [0] l):wn7.mem.weaks t l=[256]:=by
 have c:=a.perm
 rw[uO]at c
 rw[ox (λi=>(wn7.mem.seg i).taken) [0,1,2,3,4,5] l c a.sorted uP]
 obtain⟨g,j,m,n,o,p,q,r⟩:=uF
 unfold Mem.weaks
 rw[d]
 simp only[List.flatMap_cons,List.flatMap_nil,List.append_nil]
 have s: ∀k:Nat,¬((wn7.mem.seg k).kind=1/\t.old k=false)->wn7.mem.weakSeg t k=[]:=λk h=>by unfold Mem.weakSeg;rw[if_neg h]
 rw[s 0 (by rw[g];simp),s 1 (by rw[j];simp),s 2 (by rw[b,q];simp),s 3 (by rw[m];simp),s 5 (by rw[o];simp)]
 have e:wn7.mem.weakSeg t 4=[256]:=by
  unfold Mem.weakSeg
  rw[if_pos ⟨n,by rw[b];exact r⟩,p,show((4:Nat):Int)=4 from rfl,f]
  rfl
 rw[e];rfl
set_option maxRecDepth 100000 in
set_option maxHeartbeats 1000000 in
theorem rV{H:zV}:bJ.C H (λv H'=>v=vT/\Ext H H'):=by
 refine HC.via λR hR=>bJ.link ?_
 unfold bJ.pt
 refine HC.mono (oa (limit:=40) (by decide)) ?_
 rintro _ H1 (⟨hc,rfl,e1⟩ | ⟨hc,b,x0,rfl,V1,hx,e1,V⟩)
 ·exact absurd (by decide) hc
 refine⟨_,_,rfl,?_⟩
 rw[if_pos rfl,onPtr_some]
 subst hx
 have ab:View H1 (some ⟨b.h,0,none⟩) (some (b,⟨wn0,vN,vN,0⟩)):=V1
 clear V1
 obtain⟨-,cq,bn⟩:=ab.inv
 intro b2 H2 bg ag
 have e2:Ext H1 H2:=Ext.push' ag
 refine HC.mono (j9 (ws:=[20,20]) (ab.ext e2) (show aP H2 ⟨b2,0,none⟩ 0 (wvs [20,20])from iO (aO bg ag)) rfl (by intro w hw;simp at hw;rw[hw];decide) (by decide) (by decide) (show(0:Int)<_ by decide) (by decide)) ?_
 rintro _ H3 ⟨rfl,V3,f3⟩
 have mR:ix (some (b,(⟨wn0,vN,vN,0⟩:Hp))) 10 0 [20,20]=(3,0):=by
  unfold ix;rw[if_neg (by decide),if_neg (by decide)];exact wn_1
 have mO:jC (some (b,(⟨wn0,vN,vN,0⟩:Hp))) 10 0 [20,20]=some (b,⟨wn1,vN,vN,0⟩):=by
  unfold jC;rw[if_neg (by decide),if_neg (by decide)];rfl
 rw[mO]at V3
 refine⟨3,0,by rw[mR],?_⟩
 refine HC.mono (nf V3 (by decide) (by decide) (show wn1.mem.count<_ by rw[pO.1];decide)) ?_
 rintro _ H4 ⟨rfl,V4,f4⟩
 refine⟨513,0,by rw[show putR (some (b,(⟨wn1,vN,vN,0⟩:Hp))) 0 1 [8,20]=(513,0)from wn_2],?_⟩
 have ac:View H4 (some ⟨b.h,0,none⟩) (some (b,⟨wn2,vN,vN,0⟩)):=V4
 clear V4
 refine HC.mono (ng ac (by decide) (by decide) (show wn2.mem.count<_ by rw[pO.2];decide)) ?_
 rintro _ H5 ⟨rfl,V5,f5⟩
 refine⟨1026,0,by rw[show putR (some (b,(⟨wn2,vN,vN,0⟩:Hp))) 1 2 [513,20]=(1026,0)from wn_3],?_⟩
 have b3:View H5 (some ⟨b.h,0,none⟩) (some (b,⟨wn3,vN,vN,0⟩)):=V5
 clear V5
 obtain⟨-,cr,bo⟩:=V3.inv
 obtain⟨-,cs,bp⟩:=ac.inv
 obtain⟨-,bh,a3⟩:=b3.inv
 have b9:wn0.mem.Even:=nh _
 have ba:wn1.mem.Even:=Sp.put_even' bn b9 2 3 _ (λh=>absurd h (by decide))
 have bb:wn2.mem.Even:=Sp.put_even' bo ba 0 1 _ (λ_=>by decide)
 have bc:wn3.mem.Even:=Sp.put_even' bp bb 1 2 _ (λ_=>by decide)
 have f: ∀x:Hp,∀j∈own (some (b,x)),H.size<=j:=λx j G=>V j (by simp[own]at G;simp[Blk.all];omega)
 have m: ∀j∈spB b,H.size<=j:=λj G=>V j (gH G)
 have E5:Ext H H5:=(((e1.trans e2).fr_trans f3 (f _)).fr_trans f4 (f _)).fr_trans f5 (f _)
 refine HC.mono (nn (x:=⟨wn3,vN,vN,0⟩) bh a3 bc (show wn3.cf<_ by rw[uN.2.2.2];decide) (by decide) (by decide) (by decide)) ?_
 rintro v6 H6 ⟨cp,aw⟩
 obtain⟨q,O,rfl,T6,B,bi,f6⟩:=aw wn_s
 refine⟨_,_,rfl,?_⟩
 rw[if_pos rfl]
 have F:O.cards=[]:=by
  obtain⟨l,hl,e⟩:=B.cards
  rw[e]
  refine qI (λk hk=>?_) hl
  have am:k<40:=by have:=hk.2.1;have ck:=tj.1;rw[show(⟨wn3,vN,vN,0⟩:Hp).sp.mem=wn3.mem from rfl]at this;omega
  have h:=uG
  rw[List.all_eq_true]at h
  exact of_decide_eq_true (h k (List.mem_range.2 am))
 have al:seenAt O.frm 4=0:=by
  unfold seenAt
  rw[B.frm 4 (by decide),if_neg (λh=>absurd h.1 (of_decide_eq_false uc))]
 have u:eR O.seen:=B.seenOK a3.mem
 have ak:eR O.frm:=by
  intro k v hv
  rcases Int.lt_or_le k 0 with hk | hk
  ·rw[B.frm0 k hk]at hv;cases hv
  ·rw[B.frm k hk]at hv
   split at hv
   ·cases hv;exact⟨_,rfl,(a3.mem.seg _).n⟩
   ·cases hv
 have au:O.tgt=0:=B.tgt
 have Q:=T6.withOld (old:=wnO) (λk hk=>B.old k hk)
 obtain⟨t,ht⟩: ∃t:Tr,t={O with old:=wnO}:=⟨_,rfl⟩
 rw[<-ht]at Q
 have E:t.old=wnO:=by rw[ht]
 have U:t.tgt=0:=by rw[ht];exact au
 have b4:t.cards=[]:=by rw[ht];exact F
 have a4:t.frm=O.frm:=by rw[ht]
 have bM:t.seen=O.seen:=by rw[ht]
 clear ht
 have b0:Tg H6 b ⟨wn4,vN,vN,0⟩ q t:=Q
 clear Q T6
 refine HC.mono (fq b0 (w:=3) (by decide)) ?_
 rw[E,U]
 rintro _ H7 ⟨rfl,T7,f7⟩
 have b1:Tg H7 b ⟨wn5,vN,vN,0⟩ q t:=T7
 clear T7
 refine⟨1539,by rw[show((⟨wn4,vN,vN,0⟩:Hp).sp.visit wnO 0 3).2=1539 from wn_5],?_⟩
 refine HC.mono (fq b1 (w:=1026) (by decide)) ?_
 rw[E,U]
 rintro _ H8 ⟨rfl,T8,f8⟩
 have S:Tg H8 b ⟨wn6,vN,vN,0⟩ q t:=T8
 clear T8
 refine⟨2050,by rw[show((⟨wn5,vN,vN,0⟩:Hp).sp.visit wnO 0 1026).2=2050 from wn_6],?_⟩
 refine HC.mono (kf S (by rw[bM];exact u) (by rw[U];decide)) ?_
 rintro _ H9 ⟨s9,a1,ai,-,T9,N,f9⟩
 rw[E,U]at ai
 have Y:=nF (T:=0) tj.2.1 S.ok.mem t7
 obtain⟨rfl,-⟩:=ai.settled Y S.ok.mem (by rw[bM];exact u)
 have A:Tg H9 b ⟨wn6,vN,vN,0⟩ q {t with seen:=a1}:=T9
 clear T9
 intro p y ah r
 have ae:Ext H9 y:=Ext.push' r
 have cw:y.size=H9.size+1:=by rw[r];simp
 have aZ:=A.grow ae
 obtain⟨bk,bl,bm⟩:=t8
 have L: ∀i,i∈b.all\/i∈q.all->i<H9.size:=λi hi=>A.lt hi
 refine HC.mono (oL (a:=⟨p,0,none⟩) (o:=513) (g:=1539) aZ N (by show 0<=t.tgt;rw[U];decide) (by decide) (by decide) (show aP y ⟨p,0,none⟩ 0 [vu 513,vu 1539]from iO (aO ah r)) ⟨λh=>by have:=L p (.inl h);omega,λh=>by have:=L p (.inr h);omega⟩ (by show p<y.size;omega)
  ⟨by show aG t.old 513;rw[E];exact of_decide_eq_true bk,bl⟩ (.inl (by show ¬aG t.old 1539;rw[E];exact of_decide_eq_false bm))) ?_
 rintro _ aU ⟨rfl,az,d,K,-,a8,bj,bd⟩
 refine⟨_,_,_,rfl,?_⟩
 have aj:dY wnO 0 wn7 a1 az d:=by
  have:dY t.old t.tgt (((wn6.visit t.old t.tgt 513).1.visit t.old t.tgt 1539).1.putsG t.tgt ((wn6.visit t.old t.tgt 513).1.visit t.old t.tgt 1539).2 (wn6.visit t.old t.tgt 513).2) a1 az d:=K
  rw[E,U]at this
  exact this
 clear K
 have ay:SpOK wn7:=by
  have h1:SpOK (wn6.visit wnO 0 513).1:=Sp.visit_ok A.ok (by decide) (λ_=>trivial)
  have h2:SpOK ((wn6.visit wnO 0 513).1.visit wnO 0 1539).1:=Sp.visit_ok h1 (by decide) (λ_=>trivial)
  exact pE h2 (by decide) _ _ (Sp.visit_word h1 (by decide)) (Sp.visit_word A.ok (by decide))
 have Z:=nF (T:=0) tj.2.2 ay.mem ub
 obtain⟨rfl,-⟩:=aj.settled Z ay.mem N
 have a9:Tg aU b ⟨wn7,vN,vN,0⟩ q {t with seen:=d}:=a8
 clear a8
 refine HC.mono (kS a9 (by show eR t.frm;rw[a4];exact ak) (by show kE t.cards;rw[b4];intro c hc;cases hc)) ?_
 rintro _ P ⟨a2,an,aa,be⟩
 have W:cU wn7.mem [0] a2:=by
  have:cU wn7.mem [t.tgt] a2:=an
  rw[U]at this;exact this
 have av:=tl (t:={t with seen:=d}) E b4 (by show seenAt t.frm 4=0;rw[a4];exact al) W
 have J:Tg P b ⟨wn8,vN,vN,0⟩ q {t with seen:=d}:=by
  have:Tg P b ⟨{wn7 with mem:=(wn7.mem.weaks {t with seen:=d} a2).foldl (brkR t.old) wn7.mem},vN,vN,0⟩ q {t with seen:=d}:=aa
  rw[av,show brkR t.old=brkR wnO by rw[E]]at this
  exact this
 clear aa
 refine HC.mono (pq J) ?_
 rintro _ z ⟨ao,-,bf⟩
 have b5:wn8.ended {t with seen:=d}=wn9:=by
  unfold Sp.ended
  show(wn8.gives t.old 1024).agains t.cards=_
  rw[E,b4];rfl
 have X:HpAt z b ⟨wn9,vN,vN,1⟩:=by
  have:HpAt z b ⟨wn8.ended {t with seen:=d},vN,vN,IntKind.wrap .u64 (0+1)⟩:=ao
  rw[b5]at this;exact this
 have ax:SpOK wn9:=Sp.gives_ok J.ok wnO 1024
 have D:View z (some ⟨b.h,0,none⟩) (some (b,⟨wn9,vN,vN,1⟩)):=.real X ax
 have I:mof (some (b,(⟨wn9,vN,vN,1⟩:Hp)))=wn9.mem:=rfl
 refine HC.mono (kC D (w:=1539) (kind:=10) (i:=0) (by decide) (by decide)) ?_
 rintro _ bV ⟨rfl,af⟩
 refine⟨2577,0,by rw[I,wn_q.1,if_pos rfl,wn_q.2],?_⟩
 refine HC.mono (kD (D.ext af) (w:=2577) (by decide)) ?_
 rintro _ bW ⟨rfl,b6⟩
 have a5:=af.trans b6
 refine⟨2561,0,by rw[I,wn_a.1,if_pos rfl,wn_a.2],?_⟩
 refine HC.mono (kD (D.ext a5) (w:=2050) (by decide)) ?_
 rintro _ bX ⟨rfl,b7⟩
 have a6:=a5.trans b7
 refine⟨2561,0,by rw[I,wn_b.1,if_pos rfl,wn_b.2],?_⟩
 refine HC.mono (kD (D.ext a6) (w:=2561) (by decide)) ?_
 rintro _ bY ⟨rfl,b8⟩
 refine⟨8,0,by rw[I,wn_c.1,if_pos rfl,wn_c.2],hR _ _ ⟨by rfl,?_⟩⟩
 have z5:=E5.size
 have ap: ∀j∈q.all,H.size<=j:=λj G=>by have:=bi j G;omega
 have M: ∀j∈q.s::spB b,H.size<=j:=λj G=>by
  rcases List.mem_cons.1 G with h | h
  ·rw[h];exact ap _ (by simp[TB.all])
  ·exact m j h
 have E9:Ext H H9:=(((E5.fr_trans f6 m).fr_trans f7 m).fr_trans f8 m).fr_trans f9 M
 have aS:Ext H P:=(((E9.trans ae).fr_trans bd M).fr_trans be m)
 have aT:Ext H z:=aS.fr_trans bf (λj G=>by
  rcases List.mem_cons.1 G with h | h
  ·rw[h];exact V _ (by simp[Blk.all])
  ·rcases List.mem_cons.1 h with h | h
   ·rw[h];exact ap _ (by simp[TB.all])
   ·exact m j h)
 exact aT.trans (a6.trans b8)
theorem oP{m:Mem}{sz:Int->Nat}(S:gG m sz)(f:aX m){w:Int}(s:aC w)(j:Good m sz w)(h:w % 8=3):m.isObj w/\(sz (w / 8):Int)=hn (m.get (w / 8))+1:=by
 have n:isTag w:=by unfold isTag;omega
 obtain⟨d,a⟩:=j.2 n
 have k:0<=m.kAt (w / 8)/\m.kAt (w / 8)<=3:=(f.seg (w / 8 / 64).toNat).kind
 have b:2<=m.kAt (w / 8):=by
  rw[h]at a
  unfold tagK at a
  by_cases i:m.kAt (w / 8)=0
  ·rw[if_pos i]at a;omega
  ·rw[if_neg i]at a
   by_cases r:m.kAt (w / 8)=1
   ·rw[if_pos r]at a;omega
   ·omega
 obtain⟨o,p,q⟩:=S.obj _ d b
 obtain⟨c,t⟩:=S.used _ d
 have e:=f.lim
 have l:=c.2.1.2.1
 exact⟨⟨⟨⟨by omega,by omega⟩,h,c.2.1,p,c.2.2⟩,o,by omega⟩,q⟩
section
variable {Z:TZ} {g F0:Int} {fw:Int->Option Int} {al:List Int} {s3 s4 s5:Sp} {sz:Int->Nat} {tr:Tr} {s0:Sp}
theorem gq.stay(C:gq Z s0 g tr fw al sz s3 s4 s5){x:Int}(b:s3.mem.used x)(a:Z.O (x / 64).toNat=false)(hk:s3.mem.kAt x≠1\/x % 2=1):s5.mem.get x=s3.mem.get x:=by
 rw[(C.t.ended.get a).1]
 exact C.t.broke.strong x b a (λq=>by rcases hk with r | r;exact r q.1;omega)
end
theorem iQ.at'{m:Mem}{a:Int}{l:List (Int×Int)}(h:iQ m a l){e:Int×Int}(b:e∈l): ∃d,Pr m e.1 a e.2 d:=by
 obtain⟨f,g,c⟩:=List.append_of_mem b
 exact⟨_,h.mem f g e c⟩
theorem Pr.isTag{m:Mem}{w b a d:Int}(h:Pr m w b a d):isTag w:=by
 have:=h.at'.2.1;have:=h.istag;unfold Go.Proofs.YtfhbhckhmnleoaaGreat.isTag;omega
theorem WbAt.heads{m:Mem}{d:Int->Nat}{p b:Int}{f a:List (Int×Int)}(A:WbAt m d p b f a): ∀w∈[eQ a,b],aC w/\Good m d w:=λw c=>by
 simp only[List.mem_cons,List.not_mem_nil,or_false]at c
 rcases c with rfl | rfl
 ·cases a with
  | nil=>exact⟨by decide,by decide,λh=>absurd h (by decide)⟩
  | cons e l=>exact⟨A.wk.1.word,A.wkg e (by simp)⟩
 ·exact⟨A.gr.word,A.gg⟩
variable{d:Mem}
def OldT(O:Nat->Bool)(T:Int)(m:Mem):Prop:= ∀k:Nat,k<m.limit->(m.seg k).taken≠0->O k=true\/(m.seg k).gen=T
section
variable {O:Nat->Bool} {T:Int}
theorem OldT.same{a:Mem}(h:OldT O T d)(hm:aY d a):OldT O T a:=λk b hk=>by
 rw[(hm.seg k).1];exact h k (by rw[<-hm.limit];exact b) (by rw[<-(hm.seg k).2.2.2.1];exact hk)
theorem OldT.alloc{s:Sp}(h:OldT O T s.mem)(f:SpOK s){k n:Int}(d:(s.alloc T k n).2.2=0):OldT O T (s.alloc T k n).1.mem:=λj c b=>by
 obtain⟨_,a⟩:=Sp.alloc_ok f d
 rw[a.limit]at c
 by_cases e:j=((s.alloc T k n).2.1 / 64).toNat
 ·right;rw[e];exact a.new.2.1
 ·rw[a.others j e]at b⊢;exact h j c b
theorem OldT.visit{s:Sp}(h:OldT O T s.mem)(b:SpOK s)(w:Int):OldT O T (s.visit O T w).1.mem:=by
 unfold Sp.visit
 split
 ·exact h
 split
 ·exact h
 split
 ·exact h
 split
 ·rename_i a
  exact(h.alloc b a).same ((aY.sets _ _ _).trans (aY.set _ _ _))
 ·exact h
theorem OldT.lookAt{s:Sp}(h:OldT O T s.mem)(b:SpOK s)(a:Int):OldT O T (s.lookAt O T a).mem:=(h.visit b _).same (aY.wr _ _ _)
def OT(O:Nat->Bool)(T:Int)(s:Sp):Prop:=SpOK s/\OldT O T s.mem
theorem OT.look{s:Sp}(h:OT O T s)(seg kind lo:Int): ∀n,OT O T (s.look O T seg kind lo n)
 | 0=>h
 | n+1=>by
  have a:=OT.look h seg kind lo n
  unfold Sp.look
  split
  ·exact⟨Sp.lookAt_ok a.1,a.2.lookAt a.1 _⟩
  ·exact a
theorem OT.drains{a b:Sp}{e f:List (Int×Value)}(h:OT O T a)(c:dY O T a e b f):OT O T b:=by
 induction c with
 | refl=>exact h
 | step k c _ _ _ _ d=>exact d.look _ _ _ _
theorem OT.visit{s:Sp}(h:OT O T s){w:Int}(a:aC w):OT O T (s.visit O T w).1:=⟨Sp.visit_ok h.1 a (λ_=>trivial),h.2.visit h.1 w⟩
theorem OldT.store{m:Mem}(h:OldT O T m)(a w:Int):OldT O T (m.store a w).1:=λk b hk=>by
 rw[Mem.store_taken]at hk
 rw[Mem.store_lim.1]at b
 rw[(Mem.store_seg k).1];exact h k b hk
theorem OldT.queued(h:OldT O T d)(g p:Int):OldT O T (d.queued g p):=by
 have b: ∀{d:Mem} (w i v:Int),OldT O T d->OldT O T (d.hset w i v):=λw i v h=>by
  unfold Mem.hset;split
  ·exact h.store _ _
  ·exact h
 have a: ∀{d:Mem} (w k i v:Int),OldT O T d->OldT O T (d.fset w k i v):=λw k i v h=>by
  unfold Mem.fset;split
  ·exact h.store _ _
  ·exact h
 unfold Mem.queued
 split
 ·exact a _ _ _ _ (b _ _ _ h)
 ·exact a _ _ _ _ (a _ _ _ _ (b _ _ _ h))
theorem OldT.putsG{s:Sp}(h:OldT O T s.mem)(d:SpOK s)(g b:Int):OldT O T (s.putsG T g b).mem:=by
 have a:OldT O T (s.putT T b 20).1.mem:=by
  unfold Sp.putT
  split
  ·rename_i c
   exact(h.alloc d c).same (aY.sets _ _ _)
  ·exact h
 unfold Sp.putsG
 split
 ·split
  ·exact a
  ·exact a.queued _ _
 ·exact h
theorem OT.visL{s:Sp}(h:OT O T s): ∀l:List Int,(∀w∈l,aC w)->OT O T (s.visL O T l).1:=λl b=>by
 have key: ∀(l:List Int) (a:Sp×List Int),(∀w∈l,aC w)->OT O T a.1->OT O T (l.foldl (λa w=>((a.1.visit O T w).1,a.2++[(a.1.visit O T w).2])) a).1:=λl=>by
  induction l with
  | nil=>intro a _ h;exact h
  | cons w l d=>intro a b h;exact d _ (λv c=>b v (List.mem_cons_of_mem _ c)) (h.visit (b w (by simp)))
 exact key l (s,[]) b h
theorem OT.rdy{s d:Sp}{u n:List (Int×Value)}{l:List (Int×Int)}{lost a:List Int}(h:OT O T s)(r: ∀e∈l,aC e.1/\aC e.2)(R:Rdy O T l s u lost d n a):OT O T d:=by
 induction R with
 | refl=>exact h
 | @step y d x n c i e R q t w v o p m=>
  obtain⟨f,j⟩:=r e (List.mem_of_getElem? q)
  have k:=m.visit f
  have b:=k.visit j
  refine OT.drains ?_ o
  unfold lk
  exact⟨pE b.1 (by decide) _ _ (Sp.visit_word k.1 j) (Sp.visit_word m.1 f),b.2.putsG b.1 _ _⟩
theorem OldT.ended{Z:TZ}{tr:Tr}{s:Sp}(h:OldT Z.O T s.mem)(E:Ended Z tr s d)(f:d.limit<=1024){k:Nat}(hk:k<d.limit)(b:(d.seg k).taken≠0):(d.seg k).gen=T:=by
 cases a:Z.O k with
 | true=>exact absurd (E.gone k (by omega) a) b
 | false=>
  obtain⟨c,_,_,e,_⟩:=E.seg k a
  rw[e]at b
  rw[c]
  rcases h k (by rw[<-E.limit];exact hk) b with q | q
  ·rw[a]at q;cases q
  ·exact q
end
theorem qJ(c:aX d):(List.range d.limit).countP (λk=>decide (0< (d.seg k).taken))+d.nfree=d.limit:=by
 unfold Mem.nfree
 rw[<-iD]
 ·have e:(List.range d.limit).countP (λk=>decide (0< (d.seg k).taken) || ((d.seg k).taken==0))=(List.range d.limit).length:=List.countP_eq_length.2 (λk _=>by
   have:0<=(d.seg k).taken:=(c.seg k).taken
   simp only[Bool.or_eq_true,decide_eq_true_eq,beq_iff_eq];omega)
  rw[e,List.length_range]
 ·intro k _ a b
  simp only[decide_eq_true_eq,beq_iff_eq]at a b
  omega
section
variable {Z:TZ} {g F0:Int} {fw:Int->Option Int} {al:List Int} {s3 s4 s5:Sp} {sz:Int->Nat} {tr:Tr} {s0:Sp}
theorem gq.free(C:gq Z s0 g tr fw al sz s3 s4 s5)(o: ∀k:Nat,k<Z.m.limit->(Z.m.seg k).taken≠0->Z.O k=true)(A:Z.m.free=s0.mem.free):(s0.mem.limit:Int)=Z.m.limit->s0.mem.limit-(s0.mem.free-s3.mem.free)<=s5.mem.free:=λn=>by
 have t:=C.t
 have S:=t.S
 have d:=S.ok.lim
 have f:s3.mem.limit=Z.m.limit:=t.tri.heads.limit
 have i:s5.mem.limit=Z.m.limit:=t.ended.limit.trans (t.broke.same.limit.trans f)
 have c: ∀k<Z.m.limit,(Z.m.seg k).taken≠0->(s3.mem.seg k).taken≠0:=λk hk a=>by
  have:=(t.tri.heads.seg k a).2.2.1
  rw[this];exact a
 have l:(List.range s5.mem.limit).countP (λk=>decide (0< (s5.mem.seg k).taken))<=(List.range Z.m.limit).countP λk=>decide (0< (s3.mem.seg k).taken) && decide ((Z.m.seg k).taken=0):=by
  rw[i]
  refine oe _ λk hk h=>?_
  rw[List.mem_range]at hk
  rw[decide_eq_true_eq]at h
  have e:Z.O k=false:=by
   cases q:Z.O k with
   | false=>rfl
   | true=>
    have y:(s5.mem.seg k).taken=0:=t.ended.gone k (by omega) q
    omega
  have j:(s5.mem.seg k).taken=(s3.mem.seg k).taken:=(t.ended.seg k e).2.2.2.1.trans (t.broke.same.seg k).2.2.2.1
  rw[Bool.and_eq_true,decide_eq_true_eq,decide_eq_true_eq]
  refine⟨by rw[<-j];exact h,?_⟩
  by_cases a:(Z.m.seg k).taken=0
  ·exact a
  ·have:=o k hk a
   rw[e]at this;cases this
 have z:((List.range Z.m.limit).countP λk=>decide (0< (s3.mem.seg k).taken) && decide ((Z.m.seg k).taken=0))+(List.range Z.m.limit).countP (λk=>decide (0< (Z.m.seg k).taken))=(List.range Z.m.limit).countP λk=>decide (0< (s3.mem.seg k).taken):=by
  rw[<-iD]
  ·refine List.countP_congr λk b=>?_
   rw[List.mem_range]at b
   have E:0<=(Z.m.seg k).taken:=(S.ok.seg k).taken
   have F:0<=(s3.mem.seg k).taken:=(t.tri.ok.mem.seg k).taken
   have B:=c k b
   simp only[Bool.or_eq_true,Bool.and_eq_true,decide_eq_true_eq]
   omega
  ·intro k _ s u
   simp only[Bool.and_eq_true,decide_eq_true_eq]at s u
   omega
 have D:=qJ S.ok
 have p:=qJ t.tri.ok.mem
 have r:=qJ C.inv.ok.mem
 rw[f]at p
 rw[i]at r l
 have v:=S.ok.free
 have w:=t.tri.ok.mem.free
 have x:=C.inv.ok.mem.free
 omega
end
theorem Tri.free{Z:TZ}{g F0:Int}{fw:Int->Option Int}{al:List Int}{s:Sp}{sz:Int->Nat}(S:aW Z g F0)(t:Tri Z F0 fw al s sz)(n: ∀k:Nat,k<1024->Z.O k=Z.m.young g k):F0-(2*(Z.m.nyoung g:Int)+4+((Z.P.length / 32:Nat):Int))<=s.mem.free:=by
 obtain⟨c,a⟩:=t.cap
 have z:=qG (Z:=Z) (g:=g) S.ok S.rng.1 n
 have q: ∀k:Nat,k<4->64*(c k:Int)<=128*(Z.yk k:Int)+64+(Z.pk k:Int):=λk hk=>by
  have v:=a.le k hk
  have w:=TZ.uk_le S.sound S.ok t.olds (k:Int)
  have x:=Sp.fill_rng t.ok Z.T k
  omega
 have b:=q 0 (by omega)
 have d:=q 1 (by omega)
 have e:=q 2 (by omega)
 have f:=q 3 (by omega)
 have y:=a.free
 have h:Z.yk ((0:Nat):Int)=Z.yk 0:=rfl
 have i:Z.yk ((1:Nat):Int)=Z.yk 1:=rfl
 have j:Z.yk ((2:Nat):Int)=Z.yk 2:=rfl
 have l:Z.yk ((3:Nat):Int)=Z.yk 3:=rfl
 rw[h]at b;rw[i]at d;rw[j]at e;rw[l]at f
 have o:Z.pk 0=2*Z.P.length:=rfl
 have p:Z.pk 1=0:=rfl
 have r:Z.pk 2=0:=rfl
 have u:Z.pk 3=0:=rfl
 rw[o]at b;rw[p]at d;rw[r]at e;rw[u]at f
 omega
structure Cell (m:Mem) (sz:Int->Nat) (x:Int×Int):Prop where
 pr:Pr m x.1 1 x.2 20
 good:Good m sz x.1
 num: ¬isTag x.2
structure WoAt (m:Mem) (sz:Int->Nat) (gn gd:Int) (L R A:List (Int×Int)) (es:List ((Int×Int)×Bool)):Prop where
 young: ∀k:Nat,k<m.limit->(m.seg k).taken≠0->(m.seg k).gen=gn
 gw:aC gd
 gg:Good m sz gd
 g3:gd % 8=3
 gh:hk (m.get (gd / 8))=10/\hn (m.get (gd / 8))=2
 f1:m.get (gd / 8+1)=eQ L
 f2:m.get (gd / 8+2)=fD L
 q:iQ m 1 L
 qg: ∀e∈L,Good m sz e.1
 qn:(L.map Prod.fst).Nodup
 qa:L.map Prod.snd=A.map Prod.fst
 r:iQ m 1 R
 rg: ∀e∈R,Good m sz e.1
 ra: ∀e∈R,∃x∈es,x.2=true/\e.2=x.1.1
 ar: ∀x∈es,x.2=true-> ∃e∈R,e.2=x.1.1
 ca: ∀x∈A,Cell m sz x
 ce: ∀x∈es,Cell m sz x.1
 out: ∀x∈es,x.2=false->(∀e∈L,e.1≠x.1.1)/\(∀e∈R,e.1≠x.1.1)/\(∀a∈A,a.1≠x.1.1)/\ ∀y∈es,y.2=true->y.1.1≠x.1.1
def InW(L R A:List (Int×Int))(es:List ((Int×Int)×Bool))(al:Bool)(w:Int):Prop:=(∃e∈L,w=e.1)\/(∃e∈R,w=e.1)\/(∃a∈A,w=a.1)\/ ∃y∈es,(al=true\/y.2=true)/\w=y.1.1
theorem lO{l:List (Int×Int)}(h:isTag (eQ l)): ∃e∈l,eQ l=e.1:=by
 cases l with
 | nil=>exact absurd h (by decide)
 | cons e l=>exact⟨e,by simp,rfl⟩
theorem tn{l:List (Int×Int)}(h:isTag (fD l)): ∃e∈l,fD l=e.1:=by
 cases l with
 | nil=>exact absurd h (by decide)
 | cons e l=>exact iJ e l
section
variable {m:Mem} {sz:Int->Nat} {gn gd:Int} {L R A:List (Int×Int)} {es:List ((Int×Int)×Bool)} {al:Bool}
theorem WoAt.inP(W:WoAt m sz gn gd L R A es){w:Int}(h:InW L R A es al w): ∃a d,Pr m w 1 a d/\Good m sz w/\(isTag a->InW L R A es al a)/\(isTag d->InW L R A es al d):=by
 rcases h with⟨e,b,rfl⟩ | ⟨e,b,rfl⟩ | ⟨x,n,rfl⟩ | ⟨y,z,B,rfl⟩
 ·obtain⟨o,p,j⟩:=List.append_of_mem b
  refine⟨_,_,W.q.mem o p e j,W.qg e b,λ_=>?_,λl=>?_⟩
  ·have:e.2∈L.map Prod.snd:=List.mem_map_of_mem b
   rw[W.qa]at this
   obtain⟨a,v,i⟩:=List.mem_map.1 this
   exact .inr (.inr (.inl ⟨a,v,i.symm⟩))
  ·obtain⟨f,k,i⟩:=lO l
   exact .inl ⟨f,by rw[j];exact List.mem_append_right _ (List.mem_cons_of_mem _ k),i⟩
 ·obtain⟨o,p,j⟩:=List.append_of_mem b
  refine⟨_,_,W.r.mem o p e j,W.rg e b,λ_=>?_,λl=>?_⟩
  ·obtain⟨x,n,t,u⟩:=W.ra e b
   exact .inr (.inr (.inr ⟨x,n,.inr t,u⟩))
  ·obtain⟨f,k,i⟩:=lO l
   exact .inr (.inl ⟨f,by rw[j];exact List.mem_append_right _ (List.mem_cons_of_mem _ k),i⟩)
 ·have c:=W.ca x n
  exact⟨_,_,c.pr,c.good,λh=>absurd h c.num,λh=>absurd h (by decide)⟩
 ·have c:=W.ce y z
  exact⟨_,_,c.pr,c.good,λh=>absurd h c.num,λh=>absurd h (by decide)⟩
theorem WoAt.size(W:WoAt m sz gn gd L R A es)(S:gG m sz)(e:aX m):sz (gd / 8)=3/\m.kAt (gd / 8)=2/\isTag gd:=by
 have b:isTag gd:=by have:=W.g3;unfold isTag;omega
 obtain⟨c,d⟩:=oP S e W.gw W.gg W.g3
 have a:m.kAt (gd / 8)=rawK (hk (m.get (gd / 8))):=c.1.2.2.2.1
 refine⟨?_,by rw[a,W.gh.1];rfl,b⟩
 rw[W.gh.2]at d
 omega
end
theorem Pr.sz2{m:Mem}{sz:Int->Nat}{w a d:Int}(S:gG m sz)(P:Pr m w 1 a d)(c:Good m sz w):sz (w / 8)=2/\m.kAt (w / 8)=0/\w % 8=1:=by
 have hk:m.kAt (w / 8)=1-1:=P.at'.2.2.2.1
 have b:w % 8=1:=P.at'.2.1
 exact⟨(S.two _ (c.2 P.isTag).1 (by omega)).1,by omega,b⟩
section
variable {Z:TZ} {g F0:Int} {gn gd:Int} {L R A:List (Int×Int)} {es:List ((Int×Int)×Bool)} {al:Bool}
theorem WoAt.allOld(W:WoAt Z.m Z.sz gn gd L R A es)(S:aW Z g F0)(b:gn<=g){k:Nat}(hk:k<Z.m.limit)(a:(Z.m.seg k).taken≠0):Z.O k=true:=by
 have c:=S.ok.lim
 refine(S.old k (by omega)).2 ⟨⟨by omega,by omega,by rw[show((k:Nat):Int).toNat=k by omega];exact a⟩,?_⟩
 rw[W.young k hk a];exact b
theorem WoAt.oldOf(W:WoAt Z.m Z.sz gn gd L R A es)(S:aW Z g F0)(a:gn<=g){x:Int}(b:Z.m.used x):Z.O (x / 64).toNat=true:=by
 have h:=b.2.1
 have c:=h.1
 have d:=h.2.1
 exact W.allOld S a (by omega) h.2.2
theorem WoAt.oldW(W:WoAt Z.m Z.sz gn gd L R A es)(S:aW Z g F0)(c:gn<=g){w:Int}(d:Good Z.m Z.sz w)(a:isTag w):aG Z.O w:=by
 have b:=(S.sound.used _ (d.2 a).1).1
 have e:=S.lt b
 unfold isTag at a
 exact⟨⟨by omega,by omega⟩,by omega,W.oldOf S c b⟩
theorem WoAt.reach(W:WoAt Z.m Z.sz gn gd L R A es)(S:aW Z g F0)(p:gn<=g)(o: ∀v,Z.V v->v=gd\/v=eQ R\/(al=true/\ ∃x∈es,v=x.1.1)){a:Int}(h:Reach Z a):a=gd / 8\/ ∃w,InW L R A es al w/\a=w / 8:=by
 induction h with
 | root y b=>
  rcases o _ y with rfl | rfl | ⟨k,x,B,rfl⟩
  ·exact .inl rfl
  ·obtain⟨e,f,c⟩:=lO (jO b)
   exact .inr ⟨_,.inr (.inl ⟨e,f,rfl⟩),by rw[c]⟩
  ·exact .inr ⟨_,.inr (.inr (.inr ⟨x,B,.inl k,rfl⟩)),rfl⟩
 | older u hn r b=>rw[W.oldOf S p u]at hn;cases hn
 | @step a i h E r b C=>
  rcases C with rfl | ⟨w,z,rfl⟩
  ·obtain⟨I,F,t⟩:=W.size S.sound S.ok
   have:i=0\/i=1\/i=2:=by omega
   rcases this with rfl | rfl | rfl
   ·exfalso
    have D:=(S.sound.obj _ (W.gg.2 t).1 (by omega)).1.1
    have j:gd / 8+((0:Nat):Int)=gd / 8:=by simp
    rw[j]at b
    have:=b.1.1
    omega
   ·have c:gd / 8+((1:Nat):Int)=gd / 8+1:=rfl
    rw[c,W.f1]at b⊢
    obtain⟨e,f,c⟩:=lO (jO b)
    exact .inr ⟨_,.inl ⟨e,f,rfl⟩,by rw[c]⟩
   ·have c:gd / 8+((2:Nat):Int)=gd / 8+2:=rfl
    rw[c,W.f2]at b⊢
    obtain⟨e,f,c⟩:=tn (jO b)
    exact .inr ⟨_,.inl ⟨e,f,rfl⟩,by rw[c]⟩
  ·obtain⟨a,d,P,G,l,n⟩:=W.inP z
   obtain⟨H,-,-⟩:=P.sz2 S.sound G
   have:i=0\/i=1:=by omega
   rcases this with rfl | rfl
   ·have j:w / 8+((0:Nat):Int)=w / 8:=by simp
    rw[j,P.car]at b⊢
    exact .inr ⟨_,l (jO b),rfl⟩
   ·have c:w / 8+((1:Nat):Int)=w / 8+1:=rfl
    rw[c,P.cdr]at b⊢
    exact .inr ⟨_,n (jO b),rfl⟩
theorem WoAt.lost(W:WoAt Z.m Z.sz gn gd L R A es)(S:aW Z g F0)(n:gn<=g)(l: ∀v,Z.V v->v=gd\/v=eQ R){x:(Int×Int)×Bool}(j:x∈es)(o:x.2=false): ¬Reach Z (x.1.1 / 8):=λh=>by
 obtain⟨r,t,u,y⟩:=W.out x j o
 have c:=W.ce x j
 obtain⟨-,z,C⟩:=c.pr.sz2 S.sound c.good
 rcases W.reach (al:=false) S n (λv p=>(l v p).elim .inl (λq=> .inr (.inl q))) h with e | ⟨w,i,e⟩
 ·have:=(W.size S.sound S.ok).2.1
  rw[<-e]at this;omega
 ·obtain⟨a,d,P,G,-,-⟩:=W.inP i
  obtain⟨-,-,B⟩:=P.sz2 S.sound G
  have e:w=x.1.1:=by omega
  rcases i with⟨f,b,q⟩ | ⟨f,b,q⟩ | ⟨f,b,q⟩ | ⟨f,b,k,q⟩
  ·exact r f b (by rw[<-q,e])
  ·exact t f b (by rw[<-q,e])
  ·exact u f b (by rw[<-q,e])
  ·exact y f b (k.resolve_left (by decide)) (by rw[<-q,e])
end
section
variable {M:Mem} {szM:Int->Nat} {O:Nat->Bool} {T g F0:Int} {V:Int->Prop} {q:Int->Option Int} {P:List Int} {fw:Int->Option Int} {al:List Int} {s:Sp} {sz:Int->Nat} {ks:List (Int×Value)}
theorem On.pr(h:On M szM O T g F0 V q P fw al s sz ks){w a d:Int}(R:Pr M w 1 a d)(x:Good M szM w)(y:aG O w)(t:Dn O fw w)(z: ∀b,fw (w / 8)=some b->q b=none/\q (b+1)=none):Dn O fw a/\Dn O fw d:=by
 obtain⟨b,k⟩:=t y
 obtain⟨D,E⟩:=z b k
 have S:=h.S
 obtain⟨F,p,G⟩:=R.sz2 S.sound x
 have j:=(h.tri.img _ _ k).2
 have f:=j.fit
 have c:TZ.sz ⟨M,szM,O,T,V,q,P⟩ (w / 8)=2:=F
 have p:M.kAt (w / 8)=0:=p
 rw[c]at f
 have u:b % 2=0:=j.even (by show M.kAt (w / 8)<=1;omega)
 have l:s.mem.kAt b=0:=by
  have:s.mem.kAt b=M.kAt (w / 8):=j.kind
  omega
 have r: ∀i:Nat,i<2-> ∀v,M.get (w / 8+i)=v->q (b+i)=none->Dn O fw v:=λi o v C n=>by
  have B:s.mem.used (b+i):=j.here i (by rw[c];exact o)
  have e:(b+(i:Int)) / 64=b / 64:=by omega
  have hk:s.mem.kAt (b+i)=0:=by unfold Mem.kAt at*;rw[e];exact l
  exact(h.fin _ B (by rw[e];exact j.out) ⟨by omega,.inl (by omega)⟩ v (.inr ⟨n,.inr ⟨w / 8,b,i,k,by rw[c];exact o,rfl,C.symm⟩⟩)).1
 refine⟨r 0 (by decide) a (by simpa using R.car) (by simpa using D),r 1 (by decide) d R.cdr E⟩
theorem On.row(h:On M szM O T g F0 V q P fw al s sz ks): ∀{l:List (Int×Int)},iQ M 1 l->(∀e∈l,Good M szM e.1/\aG O e.1/\ ∀b,fw (e.1 / 8)=some b->q b=none/\q (b+1)=none)->Dn O fw (eQ l)-> ∀e∈l,Dn O fw e.1/\Dn O fw e.2
 | [],_,_,_=>λe k=>by cases k
 | e::l,hr,hl,hd=>by
  obtain⟨f,i,j⟩:=hl e (by simp)
  obtain⟨c,d⟩:=h.pr hr.1 f i hd j
  intro x a
  rcases List.mem_cons.1 a with rfl | a
  ·exact⟨hd,c⟩
  ·exact On.row h hr.2 (λy n=>hl y (List.mem_cons_of_mem _ n)) d x a
end
def mk1(x:(Int×Int)×Bool):Int:=if x.2=true then 0 else 1
def mk2(x:(Int×Int)×Bool):Int:=if x.2=true then 0 else 2
def ents(gd:Int)(es:List ((Int×Int)×Bool)):List (Int×Int):=es.map λx=>(x.1.1,gd)
def jj(es:List ((Int×Int)×Bool)):List (Int×Int):=(es.filter λx=> !x.2).map (·.1)
theorem mc(a b:List ((Int×Int)×Bool)):jj (a++b)=jj a++jj b:=by unfold jj;rw[List.filter_append,List.map_append]
theorem nG{a:List ((Int×Int)×Bool)}(h: ∀x∈a,x.2=true):jj a=[]:=by
 unfold jj
 rw[List.filter_eq_nil_iff.2 (λx b=>by rw[h x b];decide)];rfl
theorem rW(es:List ((Int×Int)×Bool)):(jj es).length<=es.length:=by
 unfold jj
 rw[List.length_map];exact List.length_filter_le _ _
structure QNew (m:Mem) (O:Nat->Bool) (fw:Int->Option Int) (gd:Int) (N L:List (Int×Int)) (q:Int->Option Int):Prop where
 f1:m.get (gd / 8+1)=eQ L
 f2:m.get (gd / 8+2)=fD L
 el: ∀l1 e l2,L=l1++e::l2->m.get (e.1 / 8)=e.2/\m.get (e.1 / 8+1)=eQ l2
 wd: ∀e∈L,e.1 % 8=1
 nd:(L.map Prod.fst).Nodup
 val:L.map Prod.snd=N.map λx=>Fw O fw x.1
 dn: ∀x∈N,Dn O fw x.1
 qn: ∀y,q y≠none->y=gd / 8+1\/y=gd / 8+2\/ ∃e∈L,y=e.1 / 8\/y=e.1 / 8+1
theorem oy{L:List (Int×Int)}{e:Int×Int}(a:e∈L)(n:Int×Int):eQ (L++[n])=eQ L:=by
 cases L with
 | nil=>cases a
 | cons x l=>rfl
section
variable {M:Mem} {szM:Int->Nat} {O:Nat->Bool} {T g F0:Int} {V:Int->Prop} {q:Int->Option Int} {P:List Int} {fw:Int->Option Int} {al:List Int} {s:Sp} {sz:Int->Nat} {ks:List (Int×Value)}
theorem On.gdAt(h:On M szM O T g F0 V q P fw al s sz ks){a:Int}(i:aC a)(f:Good M szM a)(u:a % 8=3)(m:hk (M.get (a / 8))=10/\hn (M.get (a / 8))=2)(x:aG O a)(v:Dn O fw a)(z: ∀b,fw (a / 8)=some b->s.mem.kAt b=2->q b=none):
  ∃b,fw (a / 8)=some b/\Fw O fw a=b*8+3/\GdAt ⟨M,szM,O,T,V,q,P⟩ s sz (b*8+3)/\s.mem.get b=M.get (a / 8):=by
 obtain⟨b,d⟩:=v x
 have S:=h.S
 have e:Fw O fw a=b*8+3:=by rw[fy x d,u]
 have t:aX M:=S.ok
 obtain⟨y,B⟩:=oP S.sound t i f u
 have r:(szM (a / 8):Int)=hn (M.get (a / 8))+1:=B
 have E:szM (a / 8)=3:=by rw[m.2]at r;omega
 have o:M.kAt (a / 8)=rawK (hk (M.get (a / 8))):=y.1.2.2.2.1
 have D:M.kAt (a / 8)=2:=by rw[o,m.1];rfl
 have l:=(h.tri.img _ _ d).2
 have w:=l.fit
 have A:s.mem.used b:=by simpa using l.here 0 (by show 0<szM (a / 8);omega)
 have p:s.mem.kAt b=2:=by
  have:s.mem.kAt b=M.kAt (a / 8):=l.kind
  omega
 have n:gJ (M.get (a / 8)):=y.2.1
 have c:s.mem.get b=M.get (a / 8):=by
  have:=(h.fin b A l.out ⟨by omega,.inl (by omega)⟩ (M.get (a / 8)) (.inr ⟨z b d p,.inr ⟨a / 8,b,0,d,by show 0<szM (a / 8);omega,by simp,by simp⟩⟩)).2
  rw[this];exact ft (jh n _)
 obtain⟨C,j,k⟩:=h.tri.goodFw S i f v
 have j:Good s.mem sz (Fw O fw a):=j
 have k: ¬aG O (Fw O fw a):=k
 rw[e]at j k
 exact⟨b,d,e,h.tri.gdAt S j k (by omega) (by rw[show(b*8+3) / 8=b by omega,c];exact m),c⟩
theorem On.queue(h:On M szM O T g F0 V q P fw al s sz ks){t o c:Int}{N L:List (Int×Int)}(Q:QNew s.mem O fw (Fw O fw t) N L q)(hP: ∀p,p∈P ↔ ∃e∈L,p=e.1 / 8)
  (aT:aC o) (aL:Good M szM o) (aS:isTag o) (a3:aC t) (a2:Good M szM t) (g3:t % 8=3) (gh:hk (M.get (t / 8))=10/\hn (M.get (t / 8))=2) (af:aG O t) (a1:Dn O fw t)
  (a5: ∀Z:TZ,Z.m=M->Z.O=O->2*((Z.yk 0:Int)+Z.yk 1+Z.yk 2+Z.yk 3)+8+(((P.length+1) / 32:Nat):Int)<=F0)
  {B:Sp} {a6:List (Int×Value)} (hd:dY O T (lk O T s (o,t)) ks B a6) (av:ii O T B a6):
  ∃q' P' j Y R L',On M szM O T g F0 (λv=>v=o\/V v) q' P' j Y B R a6/\Le fw j/\P'.length=P.length+1/\(∀p,p∈P' ↔ ∃e∈L',p=e.1 / 8)/\QNew B.mem O j (Fw O j t) (N++[(o,c)]) L' q':=by
 have pr: ∀e∈L,NewP ⟨M,szM,O,T,V,q,P⟩ s sz (e.1 / 8):=λe d=>h.tri.pair _ ((hP _).2 ⟨e,d,rfl⟩)
 have pk: ∀e∈L,s.mem.kAt (e.1 / 8)=0/\s.mem.kAt (e.1 / 8+1)=0/\e.1 / 8 % 2=0:=λe d=>by
  have n:=pr e d
  have ke:=n.kind
  have ev:=n.even
  refine⟨ke,?_,ev⟩
  unfold Mem.kAt at*
  rw[show(e.1 / 8+1) / 64=e.1 / 8 / 64 by omega];exact ke
 have aU: ∀e∈L,O (e.1 / 8 / 64).toNat=false/\O ((e.1 / 8+1) / 64).toNat=false:=λe d=>by
  have n:=pr e d
  have ev:=n.even
  have:=n.out
  exact⟨this,by rw[show(e.1 / 8+1) / 64=e.1 / 8 / 64 by omega];exact this⟩
 obtain⟨b,hb,eb,G,aw⟩:=h.gdAt a3 a2 g3 gh af a1 (λb hb hk=>Classical.byContradiction λhq=>by
  have e:Fw O fw t=b*8+3:=by rw[fy af hb,g3]
  rcases Q.qn b hq with r | r | ⟨x,k,r | r⟩
  ·rw[e]at r;omega
  ·rw[e]at r;omega
  ·have:=(pk x k).1;rw[<-r]at this;omega
  ·have:=(pk x k).2.1;rw[<-r]at this;omega)
 have C:(b*8+3) / 8=b:=by omega
 rw[eb]at Q
 have f1:=Q.f1
 have f2:=Q.f2
 rw[C]at f1 f2
 have hr:reachedB O s.mem t=true:=by
  have e:reachedB O s.mem t=dnB O fw t:=h.tri.reachedB h.S a3 a2
  rw[e];exact gT.2 a1
 obtain⟨q',P',j,Y,R,W⟩:=h.ready aT aL aS a3 a2 hr a5 hd av
 rcases W.how with⟨ai,_⟩ | ⟨bb,p,H,n1,n2,ae⟩
 ·rw[eb]at ai
  exact absurd (G.isObj h.tri).2 ai
 have ap:Fw O j t=b*8+3:=by rw[fZ a1 W.le,eb]
 have ON:=W.on
 have N2:NewP ⟨M,szM,O,T,λv=>v=o\/V v,q',P'⟩ B R p:=ON.tri.pair p (by rw[H];simp)
 have bo:=N2.used.1.1
 have bp:=N2.even
 have gs: ∀i:Nat,i<3->s.mem.used (b+i)/\s.mem.kAt (b+i)=2/\O ((b+i) / 64).toNat=false:=λi hi=>by
  have u:=(G.used i hi).1
  have st:=G.strong (i:=i) hi
  rw[C]at u st
  exact⟨u,st.1,st.2.2⟩
 have g1:=gs 1 (by decide)
 have g2:=gs 2 (by decide)
 have c1:b+((1:Nat):Int)=b+1:=rfl
 have c2:b+((2:Nat):Int)=b+2:=rfl
 rw[c1]at g1
 rw[c2]at g2
 obtain⟨X,A⟩: ∃X,X=if jX (fD L)then fD L / 8+1 else b+1:=⟨_,rfl⟩
 have w: ∀x,(s.mem.used x/\O (x / 64).toNat=false)\/x=p\/x=p+1->B.mem.get x=if x=p then Fw O j o else if x=p+1 then 20 else if x=b+2 then p*8+1 else if x=X then p*8+1 else s.mem.get x:=λx k=>by
  rw[ae x k]
  unfold kI
  rw[eb,C,f2,<-A]
 have K:(L=[]/\X=b+1)\/ ∃e∈L,fD L=e.1/\X=e.1 / 8+1:=by
  cases F:L with
  | nil=>
   left
   rw[F]at A
   exact⟨rfl,by rw[A];exact if_neg (by decide)⟩
  | cons e l=>
   right
   rw[F]at A
   obtain⟨x,k,I⟩:=iJ e l
   refine⟨x,k,I,?_⟩
   have hw:=Q.wd x (by rw[F];exact k)
   rw[A,I,if_pos (.inl hw)]
 have J: ∀x,s.mem.used x->O (x / 64).toNat=false->B.mem.get x=if x=b+2 then p*8+1 else if x=X then p*8+1 else s.mem.get x:=λx hu ho=>by
  rw[w x (.inl ⟨hu,ho⟩),if_neg (show ¬x=p from λe=>n1 (by rw[<-e];exact hu)),if_neg (show ¬x=p+1 from λe=>n2 (by rw[<-e];exact hu))]
 have old: ∀x,s.mem.used x->O (x / 64).toNat=false->x≠b+2->x≠X->B.mem.get x=s.mem.get x:=λx hu ho E I=>by
  rw[J x hu ho,if_neg E,if_neg I]
 have aZ: ∀y,q' y≠none->y=b+1\/y=b+2\/ ∃e∈L++[(p*8+1,Fw O j o)],y=e.1 / 8\/y=e.1 / 8+1:=λy hy=>by
  have qn:=W.qn y hy
  rw[eb,C,f2,<-A]at qn
  rcases qn with r | ⟨p2,e,r⟩ | r | r
  ·rcases Q.qn y r with r | r | ⟨e,d,r⟩
   ·rw[C]at r;exact .inl r
   ·rw[C]at r;exact .inr (.inl r)
   ·exact .inr (.inr ⟨e,List.mem_append_left _ d,r⟩)
  ·have e:p=p2:=by rw[H]at e;exact(List.cons.inj e).1
   subst e
   exact .inr (.inr ⟨_,List.mem_append_right _ (List.mem_singleton.2 rfl),by
    rw[show(p*8+1) / 8=p by omega];exact r⟩)
  ·exact .inr (.inl r)
  ·rcases K with⟨_,e⟩ | ⟨x,k,_,e⟩
   ·exact .inl (r.trans e)
   ·exact .inr (.inr ⟨x,List.mem_append_left _ k,.inr (r.trans e)⟩)
 have D:(p*8+1) / 8=p:=by omega
 refine⟨q',P',j,Y,R,L++[(p*8+1,Fw O j o)],ON,W.le,by rw[H];rfl,λy=>?_,?_⟩
 ·rw[H,List.mem_cons,hP]
  constructor
  ·rintro(r | ⟨e,d,r⟩)
   ·exact⟨_,List.mem_append_right _ (List.mem_singleton.2 rfl),by rw[r,D]⟩
   ·exact⟨e,List.mem_append_left _ d,r⟩
  ·rintro⟨e,d,r⟩
   rcases List.mem_append.1 d with d | d
   ·exact .inr ⟨e,d,r⟩
   ·rw[List.mem_singleton.1 d,D]at r
    exact .inl r
 rw[ap]
 refine⟨?_,?_,λl1 e l2 I=>?_,λe d=>?_,?_,?_,λx k=>?_,λy hy=>?_⟩
 ·-- the first field
  rw[C]
  rcases K with⟨F,e⟩ | ⟨x,k,I,e⟩
  ·rw[J (b+1) g1.1 g1.2.2,if_neg (by omega),if_pos e.symm,F];rfl
  ·rw[old (b+1) g1.1 g1.2.2 (by omega) (λq=>by
    have:=(pk x k).2.1
    rw[<-e,<-q]at this;omega),f1,oy k]
 ·rw[C,J (b+2) g2.1 g2.2.2,if_pos rfl,iY];rfl
 ·-- the chain
  rcases List.eq_nil_or_concat l2 with rfl | ⟨U,z,rfl⟩
  ·obtain⟨h1,E⟩:=List.append_inj' I rfl
   have E:(p*8+1,Fw O j o)=e:=(List.cons.inj E).1
   subst E
   show B.mem.get ((p*8+1) / 8)=Fw O j o/\B.mem.get ((p*8+1) / 8+1)=20
   rw[D,w p (.inr (.inl rfl)),if_pos rfl,w (p+1) (.inr (.inr rfl)),if_neg (by omega),if_pos rfl]
   exact⟨rfl,rfl⟩
  ·rw[List.concat_eq_append]at I⊢
   have ax:L++[(p*8+1,Fw O j o)]=(l1++e::U)++[z]:=by rw[I];simp
   obtain⟨h1,E⟩:=List.append_inj' ax rfl
   have E:(p*8+1,Fw O j o)=z:=(List.cons.inj E).1
   subst E
   have d:e∈L:=by rw[h1];simp
   obtain⟨q1,q2⟩:=Q.el l1 e U h1
   have n:=pr e d
   obtain⟨k1,k2,k3⟩:=pk e d
   obtain⟨o1,o2⟩:=aU e d
   have xo:X≠e.1 / 8:=λr=>by
    rcases K with⟨F,_⟩ | ⟨x,k,_,e2⟩
    ·rw[F]at d;cases d
    ·have:=(pk x k).2.2
     omega
   refine⟨by rw[old _ n.used.1 o1 (λr=>by have:=g2.2.1;rw[<-r]at this;omega) (λr=>xo r.symm)];exact q1,?_⟩
   rcases K with⟨F,_⟩ | ⟨x,k,ag,e2⟩
   ·rw[F]at d;cases d
   cases U with
   | nil=>
    have:fD L=e.1:=by rw[h1,iY];rfl
    have ex:x.1=e.1:=ag.symm.trans this
    rw[J _ n.used.2 o2,if_neg (λr=>by have:=g2.2.1;rw[<-r]at this;omega),if_pos (by rw[e2,ex])];rfl
   | cons f U=>
    have bn:x.1≠e.1:=λr=>by
     have a4:fD L=fD (f::U):=by
      rw[h1,show l1++e::f::U=(l1++[e])++f::U by simp,iY]
     obtain⟨y,hy,ay⟩:=iJ f U
     have ah:=Q.nd
     rw[h1,List.map_append,List.map_cons]at ah
     have:=(List.nodup_append.1 ah).2.1
     rw[List.nodup_cons]at this
     exact this.1 (by rw[<-r,<-ag,a4,ay];exact List.mem_map_of_mem hy)
    have w1:=Q.wd e d
    have w2:=Q.wd x k
    rw[old _ n.used.2 o2 (λr=>by have:=g2.2.1;rw[<-r]at this;omega) (λr=>by omega),q2];rfl
 ·rcases List.mem_append.1 d with d | d
  ·exact Q.wd e d
  ·rw[List.mem_singleton.1 d];show(p*8+1) % 8=1;omega
 ·rw[List.map_append,List.nodup_append]
  refine⟨Q.nd,by simp,λa ha b' a0=>?_⟩
  obtain⟨e,d,rfl⟩:=List.mem_map.1 ha
  have a0:b'=p*8+1:=by simpa using a0
  rw[a0]
  intro r
  have:=(pr e d).used.1
  rw[r,D]at this
  exact n1 this
 ·rw[List.map_append,List.map_append,Q.val]
  congr 1
  exact List.map_congr_left λx k=>(fZ (Q.dn x k) W.le).symm
 ·rcases List.mem_append.1 k with k | k
  ·exact(Q.dn x k).mono W.le
  ·rw[List.mem_singleton.1 k]
   exact ON.roots o (.inl rfl)
 ·rw[C];exact aZ y hy
end
structure IsG (m:Mem) (sz:Int->Nat) (gd:Int):Prop where
 word:aC gd
 good:Good m sz gd
 tag:gd % 8=3
 kind:hk (m.get (gd / 8))=10
structure GI (m:Mem) (sz:Int->Nat) (L:Int->List (Int×Int)):Prop where
 two: ∀gd,IsG m sz gd->hn (m.get (gd / 8))=2
 f1: ∀gd,IsG m sz gd->m.get (gd / 8+1)=eQ (L gd)
 f2: ∀gd,IsG m sz gd->m.get (gd / 8+2)=fD (L gd)
 q: ∀gd,IsG m sz gd->iQ m 1 (L gd)
 qg: ∀gd,IsG m sz gd-> ∀e∈L gd,Good m sz e.1
 nd: ∀gd,IsG m sz gd->((L gd).map Prod.fst).Nodup
 dj: ∀gd gd',IsG m sz gd->IsG m sz gd'-> ∀e∈L gd,∀e'∈L gd',e.1=e'.1->gd=gd'
theorem IsG.isTag{m:Mem}{sz:Int->Nat}{a:Int}(G:IsG m sz a):isTag a:=by have:=G.tag;unfold Go.Proofs.YtfhbhckhmnleoaaGreat.isTag;omega
theorem IsG.kAt{m:Mem}{sz:Int->Nat}{a:Int}(G:IsG m sz a)(S:gG m sz)(e:aX m):m.kAt (a / 8)=2/\m.isObj a/\(sz (a / 8):Int)=hn (m.get (a / 8))+1/\gJ (m.get (a / 8)):=by
 obtain⟨c,d⟩:=oP S e G.word G.good G.tag
 have b:m.kAt (a / 8)=rawK (hk (m.get (a / 8))):=c.1.2.2.2.1
 exact⟨by rw[b,G.kind];rfl,c,d,c.2.1⟩
theorem GI.size{m:Mem}{sz:Int->Nat}{L:Int->List (Int×Int)}(I:GI m sz L)(S:gG m sz)(b:aX m){a:Int}(G:IsG m sz a):sz (a / 8)=3/\m.kAt (a / 8)=2:=by
 obtain⟨k,-,h,-⟩:=G.kAt S b
 have:=I.two a G
 exact⟨by omega,k⟩
theorem GI.pair{m:Mem}{sz:Int->Nat}{L:Int->List (Int×Int)}(I:GI m sz L)(S:gG m sz){a:Int}(G:IsG m sz a){c b:List (Int×Int)}{e:Int×Int}(h:L a=c++e::b):Pr m e.1 1 e.2 (eQ b)/\Good m sz e.1/\sz (e.1 / 8)=2/\m.kAt (e.1 / 8)=0/\e.1 % 8=1:=by
 have P:=(I.q a G).mem c b e h
 have g:=I.qg a G e (by rw[h];simp)
 obtain⟨z,k,t⟩:=P.sz2 S g
 exact⟨P,g,z,k,t⟩
theorem GI.pairM{m:Mem}{sz:Int->Nat}{L:Int->List (Int×Int)}(I:GI m sz L)(S:gG m sz){a:Int}(G:IsG m sz a){e:Int×Int}(b:e∈L a):aC e.1/\Good m sz e.1/\sz (e.1 / 8)=2/\m.kAt (e.1 / 8)=0/\e.1 % 8=1:=by
 obtain⟨c,d,h⟩:=List.append_of_mem b
 obtain⟨P,r⟩:=I.pair S G h
 exact⟨P.word,r⟩
section
variable {M:Mem} {szM:Int->Nat} {O:Nat->Bool} {T g F0:Int} {V:Int->Prop} {q:Int->Option Int} {P:List Int} {fw:Int->Option Int} {al:List Int} {s:Sp} {sz:Int->Nat} {ks:List (Int×Value)}
theorem On.at'(h:On M szM O T g F0 V q P fw al s sz ks){w:Int}(F:aC w)(D:Good M szM w)(t:isTag w)(A:Dn O fw w):sz (Fw O fw w / 8)=szM (w / 8)/\ ∀i:Nat,i<szM (w / 8)->
  s.mem.used (Fw O fw w / 8+i)/\O ((Fw O fw w / 8+i) / 64).toNat=false/\s.mem.kAt (Fw O fw w / 8+i)=M.kAt (w / 8)/\(s.mem.strong (Fw O fw w / 8+i)->q (Fw O fw w / 8+i)=none->Dn O fw (M.get (w / 8+i))/\s.mem.get (Fw O fw w / 8+i)=Fw O fw (M.get (w / 8+i))):=by
 have S:=h.S
 have v:szM (w / 8)≠0:=(D.2 t).1
 by_cases j:aG O w
 ·obtain⟨b,o⟩:=A j
  obtain⟨y,l⟩:=h.tri.img _ _ o
  have B:=l.fit
  have z:Fw O fw w / 8=b:=by rw[fy j o];omega
  rw[z]
  refine⟨y,λi f=>?_⟩
  have C:b % 64+szM (w / 8)<=64:=B.1
  have e:(b+(i:Int)) / 64=b / 64:=by omega
  have d:=l.here i f
  have a:O ((b+(i:Int)) / 64).toNat=false:=by rw[e];exact l.out
  have hk:s.mem.kAt (b+i)=M.kAt (w / 8):=by
   have:s.mem.kAt b=M.kAt (w / 8):=l.kind
   unfold Mem.kAt at*
   rw[e];exact this
  exact⟨d,a,hk,λr p=>h.fin _ d a r _ (.inr ⟨p,.inr ⟨w / 8,b,i,o,f,rfl,rfl⟩⟩)⟩
 ·rw[ft j]
  have x:M.used (w / 8):=(S.sound.used _ v).1
  refine⟨h.tri.sz0 _ x,λi f=>?_⟩
  obtain⟨u,c,-⟩:=S.sound.usedAt v f (λk=>(S.ok.seg k).n.2)
  have E:=S.lt x
  have m:O (w / 8 / 64).toNat=false:=by
   cases q:O (w / 8 / 64).toNat with
   | false=>rfl
   | true=>exact absurd ⟨⟨by unfold isTag at t;omega,by omega⟩,by unfold isTag at t;omega,q⟩ j
  have a:O ((w / 8+(i:Int)) / 64).toNat=false:=by rw[c];exact m
  have d:=h.tri.heads.used u
  have hk:s.mem.kAt (w / 8+i)=M.kAt (w / 8):=by
   have:s.mem.kAt (w / 8+i)=M.kAt (w / 8+i):=(h.tri.kAt u).1
   rw[this]
   unfold Mem.kAt;rw[c]
  exact⟨d,a,hk,λr p=>h.fin _ d a r _ (.inr ⟨p,.inl ⟨u,a,rfl⟩⟩)⟩
theorem On.inj(h:On M szM O T g F0 V q P fw al s sz ks){w v:Int}(r:Good M szM w)(t:isTag w)(p:Dn O fw w)(z:Good M szM v)(A:isTag v)(o:Dn O fw v)(j:w / 8≠v / 8):Fw O fw w / 8≠Fw O fw v / 8:=by
 have S:=h.S
 have C:M.used (w / 8):=(S.sound.used _ (r.2 t).1).1
 have B:M.used (v / 8):=(S.sound.used _ (z.2 A).1).1
 have k: ∀a b,fw a=some b-> ¬M.used b:=λa b f u=>by
  obtain⟨m,y⟩:=h.tri.img _ _ f
  have x:szM a≠0:=(h.tri.olds.mem a ((h.tri.al a).2 ⟨b,f⟩)).1
  have:=y.new 0 (Nat.pos_of_ne_zero x)
  exact this (by simpa using u)
 by_cases l:aG O w
 ·obtain⟨b,f⟩:=p l
  have m:Fw O fw w / 8=b:=by rw[fy l f];omega
  by_cases d:aG O v
  ·obtain⟨c,i⟩:=o d
   have n:Fw O fw v / 8=c:=by rw[fy d i];omega
   rw[m,n]
   intro e
   subst e
   exact j (h.tri.inj _ _ _ f i)
  ·rw[m,ft d]
   intro e
   exact k _ _ f (e▸B)
 ·by_cases d:aG O v
  ·obtain⟨c,i⟩:=o d
   have n:Fw O fw v / 8=c:=by rw[fy d i];omega
   rw[ft l,n]
   intro e
   exact k _ _ i (e▸C)
  ·rw[ft l,ft d];exact j
theorem On.notP(h:On M szM O T g F0 V q P fw al s sz ks){w p:Int}(j:Good M szM w)(k:isTag w)(i:Dn O fw w)(d:p∈P):Fw O fw w / 8≠p:=by
 have S:=h.S
 by_cases a:aG O w
 ·obtain⟨b,c⟩:=i a
  have f:Fw O fw w / 8=b:=by rw[fy a c];omega
  rw[f]
  intro e
  exact h.tri.pim _ _ c (e▸d)
 ·rw[ft a]
  intro e
  exact(h.tri.pair p d).new.1 (e▸(S.sound.used _ (j.2 k).1).1)
theorem On.far(h:On M szM O T g F0 V q P fw al s sz ks){c d:Int}{i j:Nat}(a:i<sz c)(b:j<sz d)(e:c+i=d+j):c=d:=by
 rcases Int.lt_trichotomy c d with r | r | r
 ·have:=h.tri.apart c d (by omega) (by omega) r;omega
 ·exact r
 ·have:=h.tri.apart d c (by omega) (by omega) r;omega
theorem On.noHead(h:On M szM O T g F0 V q P fw al s sz ks){c:Int}(b:sz c≠0)(hk:2<=s.mem.kAt c):q c=none:=by
 cases a:q c with
 | none=>rfl
 | some w=>have:=(h.tri.qok c w a).head b;omega
end
