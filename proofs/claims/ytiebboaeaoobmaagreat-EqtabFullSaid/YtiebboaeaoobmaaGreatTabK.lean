/-
 The document's tables (package moraineref15), and what a law of tables plays with. Proves nothing of any one statement.
-/
import Derived.Test.YtiebboaeaoobmaaGreatTabH
set_option linter.unusedVariables false
set_option linter.unusedSimpArgs false
namespace Go.Proofs.YtiebboaeaoobmaaGreat
open Go

def atR(x n:Int):Int:=Int.tmod (Int.tmod x n+n) n
theorem iF{x n:Int}(hn:0<n):0<=atR x n/\atR x n<n:=by
 unfold atR
 have h1: -n<Int.tmod x n:=by have:=Int.lt_tmod_of_pos x hn;omega
 have h2:0<=Int.tmod x n+n:=by omega
 exact⟨Int.tmod_nonneg n h2,Int.tmod_lt_of_pos _ hn⟩
theorem at_c{H:zV}{x n:Int}(hn:0<n/\n<=1000000):bT.C x n H (λv H'=>v=.int .i64 (atR x n)/\H'=H):=by
 refine HC.via λR hR=>bT.link ?_
 unfold bT.pt zY
 have h1: -n<Int.tmod x n:=by have:=Int.lt_tmod_of_pos x hn.1;omega
 have h2:Int.tmod x n<n:=Int.tmod_lt_of_pos _ hn.1
 rw[w64 (n:=Int.tmod x n+n) (by omega)]
 exact⟨by omega,by omega,hR _ _ ⟨rfl,rfl⟩⟩
theorem kI{H:zV}{n:Int}(hn:0<=n/\n<1000):bN.C n H (λv H'=>v=.int .u64 (8*n)/\H'=H):=by
 refine HC.via λR hR=>bN.link ?_
 unfold bN.pt zY
 rw[Int.tmod_eq_of_lt hn.1 hn.2,w64 (n:=n*8) (by omega)]
 have e:IntKind.wrap .u64 (n*8)=8*n:=by
  show n*8 % 18446744073709551616=_
  omega
 rw[e]
 exact hR _ _ ⟨rfl,rfl⟩

def bU(p:Int×Int):List Value:=[.int .i64 p.1,.int .i64 p.2]
theorem fV(p:Int×Int):(bU p).length=2:=rfl
structure RefT (A:zV) (q:Nat) (B:zW) (c:Nat) (L:List (Int×Int)):Prop where
 cell:A[q]?=some (.cells #[.slice B L.length c] 64 (0,0))
 own:Own A 67 2 B L.length c (L.flatMap bU)
 ne:q ∉ blks B
theorem RefT.keep{A A':zV}{q c:Nat}{B:zW}{L:List (Int×Int)}{S:List Nat}(h:RefT A q B c L)(f:Fr S A A')(hS: ∀j∈S,j≠q/\j ∉ blks B):RefT A' q B c L:=
 ⟨f.get (λhi=>(hS _ hi).1 rfl) h.cell,h.own.keep f (λj hj hs=>(hS _ hs).2 hj),h.ne⟩
theorem RefT.ext{A A':zV}{q c:Nat}{B:zW}{L:List (Int×Int)}(h:RefT A q B c L)(e:Ext A A'):RefT A' q B c L:=h.keep (S:=[]) e.fr (by simp)
theorem RefT.at'{A:zV}{q c:Nat}{B:zW}{L:List (Int×Int)}(h:RefT A q B c L){j:Nat}(hj:j<L.length): ∃a,B=some a/\hat A (a.add (j*2))=some (.int .i64 L[j].1)/\hat A ((a.add (j*2)).add 1)=some (.int .i64 L[j].2):=by
 obtain⟨a,ha,hr,hrow⟩:=h.own.elem fV (by decide) hj
 refine⟨a,ha,?_,hr 1 _ rfl⟩
 have:=hr 0 _ rfl
 rw[gj,Nat.add_zero]at this
 exact this
def tD(L:List (Int×Int))(key:Int)(i:Int):Prop:=(∃(j:Nat) (hj:j<L.length),i=j/\L[j].1=key/\ ∀k (hk:k<j),(L[k]'(by omega)).1≠key)\/(i= -1/\ ∀p∈L,p.1≠key)
theorem jz{H:zV}{q c:Nat}{B:zW}{L:List (Int×Int)}{key:Int}(h:RefT H q B c L)(hl:L.length<=1000000):
  aU.C (some ⟨q,0,none⟩) key H (λv H'=> ∃i,v=.int .i64 i/\tD L key i/\H'=H):=by
 refine HC.via λR hR=>aU.link ?_
 unfold aU.pt zY
 refine⟨λi A=>A=H/\0<=i/\i<=L.length/\ ∀k (hk:k<L.length),(k:Int)<i->(L[k]).1≠key,λi _=>(L.length-i).toNat,⟨rfl,by omega,by omega,λk hk h=>by omega⟩,?_⟩
 rintro i A ⟨rfl,hi0,hil,hno⟩
 refine⟨_,rfl,_,_,_,aK h.cell,?_⟩
 by_cases hlt:i< (L.length:Int)
 ·rw[if_pos hlt]
  have hj:i.toNat<L.length:=by omega
  obtain⟨a,ha,h1,_⟩:=h.at' hj
  refine⟨_,_,_,aK h.cell,a,ha,⟨hi0,hlt⟩,_,h1,?_⟩
  by_cases hk:L[i.toNat].1=key
  ·rw[if_pos hk]
   exact hR _ _ ⟨i,rfl,.inl ⟨i.toNat,hj,by omega,hk,λk hk'=>hno k (by omega) (by omega)⟩,rfl⟩
  ·rw[if_neg hk]
   have hd:((L.length:Int)-(i+1)).toNat< ((L.length:Int)-i).toNat:=by omega
   rw[w64 (n:=i+1) (by omega)]
   refine⟨⟨rfl,by omega,by omega,λk hkl hki=>?_⟩,hd⟩
   by_cases e:(k:Int)=i
   ·have:k=i.toNat:=by omega
    subst this;exact hk
   ·exact hno k hkl (by omega)
 ·rw[if_neg hlt]
  refine hR _ _ ⟨-1,rfl,.inr ⟨rfl,λp hp=>?_⟩,rfl⟩
  obtain⟨k,hk,rfl⟩:=List.getElem_of_mem hp
  exact hno k hk (by omega)
def putL:List (Int×Int)->Int->Int->List (Int×Int)
 | [],k,v=> [(k,v)]
 | p::l,k,v=>if p.1=k then(k,v)::l else p::putL l k v
def delL:List (Int×Int)->Int->List (Int×Int)
 | [],_=> []
 | p::l,k=>if p.1=k then l else p::delL l k
theorem qp: ∀(L:List (Int×Int)) {k v:Int} {j:Nat} (hj:j<L.length),L[j].1=k->(∀i (hi:i<j),(L[i]'(by omega)).1≠k)->putL L k v=L.set j (k,v)
 | p::l,k,v,0,_,h,_=>by have h:p.1=k:=h;unfold putL;rw[if_pos h];rfl
 | p::l,k,v,j+1,hj,h,hn=>by
  have h0:p.1≠k:=hn 0 (by omega)
  unfold putL
  rw[if_neg h0,qp l (by simpa using hj) h (λi hi=>hn (i+1) (by omega))];rfl
theorem oQ: ∀(L:List (Int×Int)) {k v:Int},(∀p∈L,p.1≠k)->putL L k v=L++[(k,v)]
 | [],_,_,_=>rfl
 | p::l,k,v,h=>by unfold putL;rw[if_neg (h p (by simp)),oQ l (λq hq=>h q (by simp[hq]))];rfl
theorem qq: ∀(L:List (Int×Int)) {k:Int} {j:Nat} (hj:j<L.length),L[j].1=k->(∀i (hi:i<j),(L[i]'(by omega)).1≠k)->delL L k=L.take j++L.drop (j+1)
 | p::l,k,0,_,h,_=>by have h:p.1=k:=h;unfold delL;rw[if_pos h];rfl
 | p::l,k,j+1,hj,h,hn=>by
  have h0:p.1≠k:=hn 0 (by omega)
  unfold delL
  rw[if_neg h0,qq l (by simpa using hj) h (λi hi=>hn (i+1) (by omega))];rfl
theorem n7: ∀(L:List (Int×Int)) {k:Int},(∀p∈L,p.1≠k)->delL L k=L
 | [],_,_=>rfl
 | p::l,k,h=>by unfold delL;rw[if_neg (h p (by simp)),n7 l (λq hq=>h q (by simp[hq]))]
theorem jA: ∀(L:List (Int×Int)),(L.flatMap bU).length=L.length*2
 | []=>rfl
 | p::l=>by rw[List.flatMap_cons,List.length_append,jA l,fV,List.length_cons];omega
theorem oR: ∀(L:List (Int×Int)) (j:Nat) (p:Int×Int),j<L.length->L[j]?.map Prod.fst=some p.1->(L.flatMap bU).set (j*2+1) (.int .i64 p.2)=(L.set j p).flatMap bU
 | x::l,0,p,_,h=>by
  simp at h
  show[Value.int .i64 x.1,.int .i64 p.2]++l.flatMap bU=bU p++l.flatMap bU
  rw[h];rfl
 | x::l,j+1,p,hj,h=>by
  show(bU x++l.flatMap bU).set ((j+1)*2+1) _=bU x++(l.set j p).flatMap bU
  rw[List.set_append,if_neg (by simp[bU];omega),fV,show(j+1)*2+1-2=j*2+1 by omega,oR l j p (by simpa using hj) (by simpa using h)]
theorem oS{H:zV}{q c:Nat}{B:zW}{L:List (Int×Int)}{key val:Int}(h:RefT H q B c L)(hl:L.length<=1000000):
  bF.C (some ⟨q,0,none⟩) key val H (λ_ H'=> ∃B' c',RefT H' q B' c' (putL L key val)/\Fr (q::blks B) H H'/\ ∀j∈blks B',j∈blks B\/H.size<=j):=by
 refine HC.via λR hR=>bF.link ?_
 unfold bF.pt
 refine HC.mono (jz (key:=key) h hl) ?_
 rintro _ H1 ⟨i,rfl,hF,rfl⟩
 refine⟨_,rfl,?_⟩
 rcases hF with⟨j,hj,rfl,hk,hno⟩ | ⟨rfl,hno⟩
 ·rw[if_neg (by omega)]
  obtain⟨a,ha,h1,h2⟩:=h.at' hj
  refine⟨_,rfl,_,_,_,aK h.cell,a,ha,⟨by omega,by omega⟩,?_⟩
  subst ha
  obtain⟨hcp,hp⟩:=h.own.puts (o:=j*2+1) (vs:=[.int .i64 val]) (by simp;omega)
  rw[show Int.toNat (j:Int)*2=j*2 by omega,gj]
  refine⟨hcp,λH2 hH2=>?_⟩
  obtain⟨ho,f2⟩:=hp H2 hH2
  have hpl:=qp L (v:=val) hj hk hno
  refine hR _ _ ⟨some a,c,⟨f2.get (λhi=>h.ne (by simpa using hi)) (by rw[hpl,List.length_set];exact h.cell),?_,h.ne⟩,f2.mono (λi hi _=>by simp at hi;simp[hi]),λj hj=> .inl hj⟩
  rw[hpl,List.length_set]
  have e:(L.flatMap bU).take (j*2+1)++[.int .i64 val]++(L.flatMap bU).drop (j*2+1+1)=(L.set j (key,val)).flatMap bU:=by
   rw[<-oR L j (key,val) hj (by rw[List.getElem?_eq_getElem hj];simp[hk])]
   rw[List.set_eq_take_append_cons_drop,if_pos (by rw[jA];omega)]
   simp
  have ho':=ho
  simp only[List.length_singleton]at ho'
  rw[e]at ho'
  exact ho'
 ·rw[if_pos (by decide)]
  refine⟨_,rfl,_,_,_,aK h.cell,λb H2 hb hH2=>?_⟩
  have e2:Ext H1 H2:=Ext.push' hH2
  refine fi (ys:=bU (key,val)) (h.own.ext e2) (eC (aF hb hH2) _ 0 0 (λj hj=>by
   rw[fV]at hj
   rcases(show j=0\/j=1 by omega)with rfl | rfl<;>rfl)) rfl rfl rfl (by omega) ?_
  intro B' c' H3 ho3 f3 hn3
  obtain⟨hcp,hs⟩:=eF (vs:=[.slice B' (L.length+1) c']) (f3.get h.ne (e2.get h.cell)) rfl rfl
  refine⟨hcp,λH4 hH4=>?_⟩
  obtain⟨g4,f4⟩:=hs H4 hH4
  have hpl:=oQ L (v:=val) hno
  have z2:=e2.size
  have hqn:q ∉ blks B':=λhq=>by
   rcases hn3 q hq with h' | h'
   ·exact h.ne h'
   ·have:=aY h.cell;omega
  refine hR _ _ ⟨B',c',⟨by rw[hpl,List.length_append];exact g4,?_,hqn⟩,(e2.fr.trans (f3.mono (λi hi _=>by simp[hi]))).trans (f4.mono (λi hi _=>by simp at hi;simp[hi])),λj hj=>?_⟩
  ·rw[hpl,List.length_append,List.flatMap_append]
   have:=ho3.keep f4 (λj hj hs=>by simp at hs;exact hqn (hs▸hj))
   simpa using this
  ·rcases hn3 j hj with h' | h'
   ·exact .inl h'
   ·right;omega

def hC(b:Blk)(t:Int)(keys:List Int)(q:Nat):List Value:=[.pointer (some ⟨b.h,0,none⟩),.int .u64 t]++wvs keys++[.pointer (some ⟨q,0,none⟩)]
structure fk (A:zV) (P:Nat) (b:Blk) (t:Int) (keys:List Int) (q:Nat):Prop where
 cell:A[P]?=some (.cells (hC b t keys q).toArray 38 (0,0))
 len:keys.length=40
theorem fk.keep{A A':zV}{P q:Nat}{b:Blk}{t:Int}{keys:List Int}{S:List Nat}(h:fk A P b t keys q)(f:Fr S A A')(hS:P ∉ S):fk A' P b t keys q:=⟨f.get hS h.cell,h.len⟩
theorem fk.ext{A A':zV}{P q:Nat}{b:Blk}{t:Int}{keys:List Int}(h:fk A P b t keys q)(e:Ext A A'):fk A' P b t keys q:=⟨e.get h.cell,h.len⟩
section
variable {A:zV} {P q:Nat} {b:Blk} {t:Int} {keys:List Int}
theorem fk.heap(h:fk A P b t keys q):hat A (Addr.mk P 0 none)=some (.pointer (some ⟨b.h,0,none⟩)):=by
 rw[aK h.cell];rfl
theorem fk.table(h:fk A P b t keys q):hat A ((Addr.mk P 0 none).add 1)=some (.int .u64 t):=by
 rw[fF h.cell];rfl
theorem sO{i:Nat}(hi:i<keys.length):(hC b t keys q)[2+i]?=some (.int .u64 keys[i]):=by
 unfold hC
 rw[List.append_assoc,List.getElem?_append_right (by simp),List.getElem?_append_left (by simp;omega)]
 simp[hi]
theorem fk.key(h:fk A P b t keys q){i:Nat}(hi:i<keys.length):hat A (((Addr.mk P 0 none).add 2).add (i*1))=some (.int .u64 keys[i]):=by
 rw[gj,Nat.mul_one,fF h.cell]
 simp only[List.getElem?_toArray]
 exact sO hi
theorem fk.ref(h:fk A P b t keys q):hat A ((Addr.mk P 0 none).add 42)=some (.pointer (some ⟨q,0,none⟩)):=by
 rw[fF h.cell]
 simp only[List.getElem?_toArray]
 unfold hC
 have hl:=h.len
 rw[List.getElem?_append_right (by simp[hl])]
 simp[hl]
theorem fk.setT(h:fk A P b t keys q)(t':Int):aJ A ((Addr.mk P 0 none).add 1) 0 1/\ ∀A',A'=aP A ((Addr.mk P 0 none).add 1) [.int .u64 t'] 0->fk A' P b t' keys q/\Fr [P] A A':=by
 obtain⟨h1,h2⟩:=qg h.cell 1 (.int .u64 t') (by simp[hC])
 refine⟨h1,λA' hA=>?_⟩
 obtain⟨g,f⟩:=h2 A' hA
 rw[List.setIfInBounds_toArray]at g
 exact⟨⟨g,h.len⟩,f⟩
theorem fk.setK(h:fk A P b t keys q){i:Nat}(hi:i<keys.length)(w:Int):aJ A (((Addr.mk P 0 none).add 2).add (i*1)) 0 1/\ ∀A',A'=aP A (((Addr.mk P 0 none).add 2).add (i*1)) [.int .u64 w] 0->fk A' P b t (keys.set i w) q/\Fr [P] A A':=by
 rw[gj,Nat.mul_one]
 obtain⟨h1,h2⟩:=qg h.cell (2+i) (.int .u64 w) (by simp[hC];omega)
 refine⟨h1,λA' hA=>?_⟩
 obtain⟨g,f⟩:=h2 A' hA
 rw[List.setIfInBounds_toArray]at g
 have e:(hC b t keys q).set (2+i) (.int .u64 w)=hC b t (keys.set i w) q:=by
  unfold hC
  rw[List.append_assoc,List.set_append,if_neg (by simp),List.set_append,if_pos (by simp;omega),List.append_assoc]
  congr 2
  rw[wvs,wvs,List.map_set]
  congr 1
  simp
 rw[e]at g
 exact⟨⟨g,by rw[List.length_set];exact h.len⟩,f⟩
end

def Rel(keys:List Int)(E:List Ent)(L:List (Int×Int)):Prop:=E.map (λy=>(y.k,y.v))=L.map (λp=>(keys.getD p.1.toNat 0,8*p.2))/\ ∀p∈L,(0<=p.1/\p.1<40)/\(0<=p.2/\p.2<1000)
structure PS (J:Sp->(Int->Prop)->Prop) (H0 A:zV) (b:Blk) (x:Hp) (G:Int->Prop) (f:PF) (th:TF) (t ew:Int) (E:List Ent) (W:TW) (P q:Nat) (keys:List Int) (B:zW) (c:Nat) (L:List (Int×Int)):Prop where
 ts:TS J H0 A b x G f th t ew E W
 play:fk A P b t keys q
 ref:RefT A q B c L
 dis:P ∉ b.all/\q ∉ b.all/\P≠q/\P ∉ blks B/\ ∀j∈blks B,j ∉ b.all
 ge:H0.size<=P/\H0.size<=q/\ ∀j∈blks B,H0.size<=j
 rel:Rel keys E L
 kw: ∀k∈keys,aG k/\G k
 nod:keys.Nodup
theorem PS.ext{J:Sp->(Int->Prop)->Prop}{H0 A A':zV}{b:Blk}{x:Hp}{G:Int->Prop}{f:PF}{th:TF}{t ew:Int}{E:List Ent}{W:TW}{P q c:Nat}{keys:List Int}{B:zW}{L:List (Int×Int)}(S:PS J H0 A b x G f th t ew E W P q keys B c L)(e:Ext A A'):PS J H0 A' b x G f th t ew E W P q keys B c L:=
 ⟨S.ts.ext e,S.play.ext e,S.ref.ext e,S.dis,S.ge,S.rel,S.kw,S.nod⟩
def KW(m:Mem)(i:Nat)(k:Int):Prop:=(k % 8=0/\k<8*(i:Int))\/((k % 8=1\/k % 8=2\/k % 8=3)/\m.used (k / 8))
theorem KW.mono{m m':Mem}{i:Nat}{k:Int}(h:KW m i k)(hu: ∀a,m.used a->m'.used a):KW m' (i+1) k:=by
 rcases h with⟨h1,h2⟩ | ⟨h1,h2⟩
 ·exact .inl ⟨h1,by omega⟩
 ·exact .inr ⟨h1,hu _ h2⟩
theorem tT{i:Int}(h:0<=i):Int.tmod i 5=i % 5:=Int.tmod_eq_emod_of_nonneg h
theorem sP:(gZ (ByteArray.mk #[107])).length<=62:=by
 rw[show gZ (ByteArray.mk #[107])=[107]by decide+kernel];decide
set_option maxRecDepth 100000 in
set_option maxHeartbeats 1000000 in
theorem qr{J:Sp->(Int->Prop)->Prop}(O:JOK J){H:zV}{G0:Int->Prop}(hJ:J ⟨Mem.fresh 200,λ_ _=>0⟩ G0):
  bY.C H (λv H'=> ∃b x G f th t W P q keys,v=.pointer (some ⟨P,0,none⟩)/\PS J H H' b x G f th t (8*x.ep) [] W P q keys none 0 []/\x.ep=0/\150<=x.sp.mem.free/\x.en=.slice none 0 0/\x.sy=.slice none 0 0):=by
 refine HC.via λR hR=>bY.link ?_
 unfold bY.pt zY
 refine HC.mono (qF (limit:=200) ⟨by decide,by decide⟩) ?_
 rintro _ H1 (⟨hc,rfl,e1⟩ | ⟨hc,b,x0,rfl,V1,hx,e1,hb1⟩)
 ·exact absurd ⟨by decide,by decide⟩ hc
 refine⟨_,_,rfl,?_⟩
 rw[if_pos rfl,onPtr_some]
 intro q H2 hq hH2 P H3 hP hH3
 have e2:Ext H1 H2:=Ext.push' hH2
 have e3:Ext H2 H3:=Ext.push' hH3
 have gq:=e3.get (aF hq hH2)
 have gP:=aF hP hH3
 have z2:H2.size=H1.size+1:=by rw[hH2];simp
 have z3:H3.size=H2.size+1:=by rw[hH3];simp
 have z1:=e1.size
 have hlim:(200:Int).toNat=200:=rfl
 rw[hlim]at hx
 have S1:HS J H H1 b x0 G0 (λ_=>none) (λ_=>none):=⟨e1,V1,by rw[hx];exact hJ,⟨λ_ _ _ h=>(by cases h),λ_ _ _ h=>(by cases h),λ_ _ _ _ _ _ h=>(by cases h)⟩,λ_ _ h=>(by cases h),λ_ _ h=>(by cases h),hb1⟩
 have hblt:=S1.blt
 have hep0:x0.ep=0:=by rw[hx]
 have hfr0:x0.sp.mem.free=200:=by rw[hx];rfl
 refine HC.mono (tS O (S1.ext (e2.trans e3)) (by omega) (by omega)) ?_
 rintro _ H4 ⟨t,vb,x1,G1,th1,rfl,T1,-,r1,gg1,gt,wt,t3,-,-,-,fr1⟩
 refine⟨_,_,rfl,?_⟩
 rw[if_pos rfl]
 have nb: ∀j,H1.size<=j->j ∉ [b.sp,b.m,b.s]:=λj hj h=>by
  have:=hblt j (by simp at h;simp[Blk.all];omega)
  omega
 have p1:fk H4 P b 0 (List.replicate 40 0) q:=⟨(fr1.get (nb _ (by omega)) gP).trans rfl,by simp⟩
 obtain⟨hcp,hs⟩:=p1.setT t
 refine⟨hcp,λH5 hH5=>?_⟩
 obtain⟨p5,f5⟩:=hs H5 hH5
 have hPb:P ∉ b.all:=λh=>by have:=hblt P h;omega
 have hqb:q ∉ b.all:=λh=>by have:=hblt q h;omega
 have z4:=fr1.size
 have q5:RefT H5 q none 0 []:=⟨f5.get (by simp;omega) (fr1.get (nb _ (by omega)) gq),iS,by simp⟩
 have hS5:=T1.hs.keep f5 (λj hj=>by simp at hj;omega) (λj hj=>by simp at hj;rw[hj];exact hPb)
 have hfr1:=r1.free
 refine⟨λi A=> ∃(n:Nat) (x:Hp) (G:Int->Prop) (f:PF) (th:TF) (ks:List Int),i=n/\n<=40/\TS J H A b x G f th t 0 [] (W0 vb)/\fk A P b t (ks++List.replicate (40-n) 0) q/\RefT A q none 0 []/\Rest (n:Int) x1 x/\ks.length=n/\ks.Nodup/\ ∀k∈ks,aG k/\G k/\KW x.sp.mem n k,λi _=>(40-i).toNat,
  ⟨0,x1,G1,_,th1,[],rfl,by omega,⟨hS5,by have:=T1.tb;rw[r1.ep,hep0]at this;exact this,λ_=>(by intro i hi p hp;cases hp),T1.ep,T1.few⟩,by simpa using p5,q5,Rest.refl _,rfl,List.nodup_nil,λk hk=>by simp at hk⟩,?_⟩
 rintro _ A ⟨n,x,G,f,th,ks,rfl,hn,T,hp,hq',hr,hkl,hnd,hkw⟩
 have hpl:(ks++List.replicate (40-n) (0:Int)).length=40:=hp.len
 have hfree:=hr.free
 have hepx:x.ep=0:=by rw[hr.ep,r1.ep,hep0]
 by_cases hlt:(n:Int)<40
 case neg=>
  rw[if_neg hlt]
  have hn40:n=40:=by omega
  subst hn40
  rw[show List.replicate (40-40) (0:Int)=[]from rfl,List.append_nil]at hp
  refine hR _ _ ⟨b,x,G,f,th,t,W0 vb,P,q,ks,rfl,⟨by rw[hepx];exact T,hp,hq',⟨hPb,hqb,by omega,by simp,by simp⟩,⟨by omega,by omega,by simp⟩,⟨rfl,by simp⟩,λk hk=>⟨(hkw k hk).1,(hkw k hk).2.1⟩,hnd⟩,hepx,by omega,?_,?_⟩
  ·rw[hr.2.1,r1.2.1,hx]
  ·rw[hr.1,r1.1,hx]
 rw[if_pos hlt]
 have hd:((40:Int)-((n:Int)+1)).toNat< ((40:Int)-(n:Int)).toNat:=by omega
 rw[tT (by omega),w64 (n:=(n:Int)+1) (by omega)]
 have hin:Int.toNat (n:Int)=n:=by omega
 rw[hin]
 have hrow: ∀(w:Int),(ks++List.replicate (40-n) (0:Int)).set n w=(ks++[w])++List.replicate (40-(n+1)) 0:=λw=>by
  rw[List.set_append,if_neg (by omega),hkl,Nat.sub_self,show 40-n=(40-(n+1))+1 by omega,List.replicate_succ]
  simp
 have hnb: ∀j∈[b.sp,b.m,b.s],j∈b.all:=λj hj=>by simp at hj;simp[Blk.all];omega
 have fin: ∀(A2:zV) (x':Hp) (G':Int->Prop) (f':PF) (th':TF) (w:Int),TS J H A2 b x' G' f' th' t 0 [] (W0 vb)->Rest 1 x x'->(∀v,G v->G' v)->Fr [b.sp,b.m,b.s] A A2->aG w->G' w->KW x'.sp.mem (n+1) w->(∀k∈ks,k≠w)->
   ((0:Int)<=(n:Int)/\(n:Int)< (40:Int))/\(aJ A2 (((Addr.mk P 0 none).add 2).add (n*1)) 0 1)/\ ∀A3:zV,A3=aP A2 (((Addr.mk P 0 none).add 2).add (n*1)) [.int .u64 w] 0->
   ((∃(n':Nat) (x:Hp) (G:Int->Prop) (f:PF) (th:TF) (ks:List Int),(n:Int)+1=n'/\n'<=40/\TS J H A3 b x G f th t 0 [] (W0 vb)/\fk A3 P b t (ks++List.replicate (40-n') 0) q/\RefT A3 q none 0 []/\Rest (n':Int) x1 x/\ks.length=n'/\ks.Nodup/\ ∀k∈ks,aG k/\G k/\KW x.sp.mem n' k)/\((40:Int)-((n:Int)+1)).toNat< ((40:Int)-(n:Int)).toNat):=by
  intro A2 x' G' f' th' w T' r' gg' fr' ww gw kw hne
  refine⟨⟨by omega,hlt⟩,?_⟩
  have hp2:=hp.keep fr' (λh=>hPb (hnb _ h))
  obtain⟨hcp,hs⟩:=hp2.setK (i:=n) (by omega) w
  refine⟨hcp,λA3 hA3=>?_⟩
  obtain⟨hp3,f3⟩:=hs A3 hA3
  rw[hrow]at hp3
  refine⟨⟨n+1,x',G',f',th',ks++[w],by omega,by omega,⟨T'.hs.keep f3 (λj hj=>by simp at hj;omega) (λj hj=>by simp at hj;rw[hj];exact hPb),T'.tb,T'.right,T'.ep,T'.few⟩,hp3,(hq'.keep fr' (λj hj=>⟨λq'=>hqb (hnb _ (q'▸hj)),by simp⟩)).keep f3 (λj hj=>by simp at hj;exact⟨by omega,by simp⟩),hr.trans r' (by omega),by simp[hkl],?_,λk hk=>?_⟩,hd⟩
  ·rw[List.nodup_append]
   exact⟨hnd,by simp,λa ha c hc=>by simp at hc;rw[hc];exact hne a ha⟩
  ·rcases List.mem_append.1 hk with h | h
   ·obtain⟨k1,k2,k3⟩:=hkw k h
    exact⟨k1,gg' _ k2,k3.mono r'.2.2.2.2.1⟩
   ·simp at h;rw[h];exact⟨ww,gw,kw⟩
 have far: ∀{w:Int},(w % 8=1\/w % 8=2\/w % 8=3)-> ¬x.sp.mem.used (w / 8)-> ∀k∈ks,k≠w:=λhw hu k hk e=>by
  obtain⟨_,_,h | h⟩:=hkw k hk
  ·rw[e]at h;omega
  ·exact hu (by rw[<-e];exact h.2)
 have tsOf: ∀{A2:zV} {x':Hp} {G':Int->Prop} {f':PF} {th':TF},HS J H A2 b x' G' f' th'->Tb f' th' t 0 [] (W0 vb)->Rest 1 x x'->TS J H A2 b x' G' f' th' t 0 [] (W0 vb):=λh1 h2 h3=>⟨h1,h2,λ_=>(by intro i hi p hp;cases hp),by rw[h3.ep];exact T.ep,by decide⟩
 refine⟨λs A'=>A'=A/\(s=true ↔ (n:Int) % 5=0\/(n:Int) % 5=1),?_,?_⟩
 ·by_cases h0:(n:Int) % 5=0
  ·rw[if_pos h0];exact⟨rfl,by simp[h0]⟩
  ·rw[if_neg h0]
   refine⟨rfl,?_⟩
   rw[beq_iff_eq];omega
 rintro s A' ⟨rfl,hs⟩
 have hfix:=isW8 (n:=(n:Int)) (by omega)
 by_cases hs1:s=true
 ·rw[if_pos hs1]
  refine HC.mono (kI (n:=(n:Int)) (by omega)) ?_
  rintro _ A1 ⟨rfl,rfl⟩
  refine⟨_,rfl,?_⟩
  refine HC.mono (T.hs.cons_c O hfix iN (O.fix T.hs.j _) (O.nil T.hs.j)) ?_
  rintro _ A2 ⟨w,er,x',G',rfl,r',gg',fr',hcase⟩
  refine⟨_,_,rfl,?_⟩
  rcases hcase with⟨rfl,fw,ww,S2⟩ | ⟨rfl,rfl,hf0,S2⟩
  case inr=>omega
  rw[if_pos rfl]
  have hp2:=S2.pic.prs w _ _ (PF.upd_at f w _)
  have h81:=hp2.at'.2.1
  exact fin A2 x' G' _ th w (tsOf S2 (T.tb.grow fw) r') r' gg' fr' ww.1 (S2.gf w _ (PF.upd_at f w _)) (.inr ⟨.inl h81,hp2.at'.used hp2.word⟩) (far (.inl h81) ww.2.1)
 rw[if_neg hs1]
 have hs0: ¬((n:Int) % 5=0\/(n:Int) % 5=1):=λh=>hs1 (hs.2 h)
 by_cases h2:(n:Int) % 5=2
 ·rw[if_pos h2]
  refine HC.mono (T.hs.string_c O sP (by omega)) ?_
  rintro _ A2 ⟨w,x',G',rfl,S2,r',gg',gw,ww,w3,hnu,hu,fr'⟩
  refine⟨_,_,rfl,?_⟩
  rw[if_pos rfl]
  exact fin A2 x' G' f th w (tsOf S2 T.tb r') r' gg' fr' ww gw (.inr ⟨.inr (.inr w3),hu⟩) (far (.inr (.inr w3)) hnu)
 rw[if_neg h2]
 by_cases h3:(n:Int) % 5=3
 ·rw[if_pos h3]
  refine HC.mono (kI (n:=(n:Int)) (by omega)) ?_
  rintro _ A1 ⟨rfl,rfl⟩
  refine⟨_,rfl,?_⟩
  refine fin A1 x G f th (8*(n:Int)) T (Rest.refl x |>.le) (λ_ h=>h) (Fr.refl _ _) hfix (O.fix T.hs.j _) (.inl ⟨by omega,by omega⟩) (λk hk e=>?_)
  obtain⟨_,_,h | h⟩:=hkw k hk
  ·omega
  ·omega
 rw[if_neg h3,if_pos (by omega)]
 refine HC.mono (kI (n:=(n:Int)) (by omega)) ?_
 rintro _ A1 ⟨rfl,rfl⟩
 refine⟨_,rfl,?_⟩
 refine HC.mono (T.hs.weak_c O hfix iN (O.fix T.hs.j _) (O.nil T.hs.j) (by omega)) ?_
 rintro _ A2 ⟨w,x',G',rfl,S2,r',gg',gw,ww,w2,hnu,hu,fr'⟩
 refine⟨_,_,rfl,?_⟩
 rw[if_pos rfl]
 exact fin A2 x' G' f th w (tsOf S2 T.tb r') r' gg' fr' ww gw (.inr ⟨.inr (.inl w2),hu⟩) (far (.inr (.inl w2)) hnu)

theorem rM: ∀(n:Nat) (l:List Nat),l.Nodup->(∀a∈l,a<n)->l.length<=n
 | 0,[],_,_=>by simp
 | 0,a::l,_,h=>absurd (h a (by simp)) (by omega)
 | n+1,l,hn,h=>by
  have:=rM n (l.erase n) (hn.erase n) (λa ha=>by
   rw[hn.mem_erase_iff]at ha
   have:=h a ha.2
   omega)
  by_cases hm:n∈l
  ·rw[List.length_erase_of_mem hm]at this;omega
  ·rw[List.erase_of_not_mem hm]at this;omega
def kOf(keys:List Int)(i:Int):Int:=keys.getD i.toNat 0
theorem n8{keys:List Int}(hn:keys.Nodup)(hl:keys.length=40){i j:Int}(hi:0<=i/\i<40)(hj:0<=j/\j<40)(h:kOf keys i=kOf keys j):i=j:=by
 unfold kOf at h
 rw[List.getD_eq_getElem?_getD,List.getD_eq_getElem?_getD,List.getElem?_eq_getElem (by omega),List.getElem?_eq_getElem (by omega)]at h
 simp only[Option.getD_some]at h
 have:=(List.getElem_inj hn).1 h
 omega
theorem n9{keys:List Int}(hl:keys.length=40){i:Int}(hi:0<=i/\i<40):kOf keys i∈keys:=by
 unfold kOf
 rw[List.getD_eq_getElem?_getD,List.getElem?_eq_getElem (by omega)]
 exact List.getElem_mem _
inductive RL (keys:List Int):List Ent->List (Int×Int)->Prop
 | nil:RL keys [] []
 | cons {y:Ent} {p:Int×Int} {E:List Ent} {L:List (Int×Int)}:y.k=kOf keys p.1->y.v=8*p.2->(0<=p.1/\p.1<40)->(0<=p.2/\p.2<1000)->RL keys E L->RL keys (y::E) (p::L)
theorem Rel.rl{keys:List Int}: ∀{E:List Ent} {L:List (Int×Int)},Rel keys E L->RL keys E L
 | [],[],_=> .nil
 | [],p::L,h=>by have:=h.1;simp at this
 | y::E,[],h=>by have:=h.1;simp at this
 | y::E,p::L,h=>by
  have h1:=h.1
  simp only[List.map_cons,List.cons.injEq,Prod.mk.injEq]at h1
  obtain⟨h2,h3⟩:=h.2 p (by simp)
  exact .cons h1.1.1 h1.1.2 h2 h3 (Rel.rl ⟨h1.2,λq hq=>h.2 q (by simp[hq])⟩)
theorem RL.rel{keys:List Int}{E:List Ent}{L:List (Int×Int)}(h:RL keys E L):Rel keys E L:=by
 induction h with
 | nil=>exact⟨rfl,by simp⟩
 | cons h1 h2 h3 h4 _ ih=>
  refine⟨?_,λq hq=>?_⟩
  ·rw[List.map_cons,List.map_cons,ih.1,h1,h2];rfl
  ·rcases List.mem_cons.1 hq with rfl | h
   ·exact⟨h3,h4⟩
   ·exact ih.2 q h
section
variable {keys:List Int} {E:List Ent} {L:List (Int×Int)} {i v:Int}
theorem RL.len(h:RL keys E L):E.length=L.length:=by
 induction h with
 | nil=>rfl
 | cons _ _ _ _ _ ih=>simp[ih]
theorem RL.has(h:RL keys E L){p:Int×Int}(hp:p∈L): ∃y∈E,y.k=kOf keys p.1/\y.v=8*p.2:=by
 induction h with
 | nil=>cases hp
 | cons h1 h2 _ _ _ ih=>
  rcases List.mem_cons.1 hp with rfl | h
  ·exact⟨_,by simp,h1,h2⟩
  ·obtain⟨y,hy,h⟩:=ih h
   exact⟨y,by simp[hy],h⟩
theorem RL.from(h:RL keys E L){y:Ent}(hy:y∈E): ∃p∈L,y.k=kOf keys p.1/\y.v=8*p.2/\(0<=p.1/\p.1<40):=by
 induction h with
 | nil=>cases hy
 | cons h1 h2 h3 _ _ ih=>
  rcases List.mem_cons.1 hy with rfl | h
  ·exact⟨_,by simp,h1,h2,h3⟩
  ·obtain⟨p,hp,h⟩:=ih h
   exact⟨p,by simp[hp],h⟩
theorem RL.none(h:RL keys E L)(hn:keys.Nodup)(hl:keys.length=40)(hi:0<=i/\i<40):(∀p∈L,p.1≠i) ↔ ∀y∈E,y.k≠kOf keys i:=by
 refine⟨λg y hy e=>?_,λg p hp e=>?_⟩
 ·obtain⟨p,hp,h1,_,h3⟩:=h.from hy
  exact g p hp (n8 hn hl h3 hi (h1.symm.trans e))
 ·obtain⟨y,hy,h1,_⟩:=h.has hp
  exact g y hy (by rw[h1,e])
theorem nt{k:Int}: ∀{E:List Ent},(∀y∈E,y.k≠k)->setV E k v=E
 | [],_=>rfl
 | y::E,h=>by
  show(if y.k=k then _ else y)::setV E k v=_
  rw[if_neg (h y (by simp)),nt (λz hz=>h z (by simp[hz]))]
theorem nu{k:Int}: ∀{E:List Ent},(∀y∈E,y.k≠k)->delK E k=E
 | [],_=>rfl
 | y::E,h=>by
  unfold delK
  rw[List.filter_cons_of_pos (by simpa using h y (by simp))]
  exact congrArg _ (nu (λz hz=>h z (by simp[hz])))
theorem RL.put(h:RL keys E L)(hn:keys.Nodup)(hl:keys.length=40)(hi:0<=i/\i<40)(hv:0<=v/\v<1000)(hk:(E.map Ent.k).Nodup)(hin: ∃y∈E,y.k=kOf keys i):RL keys (setV E (kOf keys i) (8*v)) (putL L i v):=by
 induction h with
 | nil=>obtain⟨y,hy,_⟩:=hin;cases hy
 | @cons y p E' L' h1 h2 h3 h4 hr ih=>
  rw[List.map_cons,List.nodup_cons]at hk
  show RL keys ((if y.k=kOf keys i then⟨y.e,y.k,8*v⟩else y)::setV E' (kOf keys i) (8*v)) (if p.1=i then(i,v)::L' else p::putL L' i v)
  by_cases e:p.1=i
  ·have ey:y.k=kOf keys i:=by rw[h1,e]
   rw[if_pos e,if_pos ey,nt (λz hz q=>hk.1 (by rw[ey];exact List.mem_map.2 ⟨z,hz,q⟩))]
   exact .cons ey rfl hi hv hr
  ·have ey:y.k≠kOf keys i:=λq=>e (n8 hn hl h3 hi (h1.symm.trans q))
   rw[if_neg e,if_neg ey]
   refine .cons h1 h2 h3 h4 (ih hk.2 ?_)
   obtain⟨z,hz,q⟩:=hin
   rcases List.mem_cons.1 hz with rfl | h
   ·exact absurd q ey
   ·exact⟨z,h,q⟩
theorem RL.new(h:RL keys E L)(hi:0<=i/\i<40)(hv:0<=v/\v<1000)(hno: ∀p∈L,p.1≠i)(e:Int):RL keys (E++[⟨e,kOf keys i,8*v⟩]) (putL L i v):=by
 induction h with
 | nil=>exact .cons rfl rfl hi hv .nil
 | @cons y p E' L' h1 h2 h3 h4 hr ih=>
  show RL keys (y::(E'++_)) (if p.1=i then(i,v)::L' else p::putL L' i v)
  rw[if_neg (hno p (by simp))]
  exact .cons h1 h2 h3 h4 (ih (λq hq=>hno q (by simp[hq])))
theorem RL.del(h:RL keys E L)(hn:keys.Nodup)(hl:keys.length=40)(hi:0<=i/\i<40)(hk:(E.map Ent.k).Nodup):RL keys (delK E (kOf keys i)) (delL L i):=by
 induction h with
 | nil=>exact .nil
 | @cons y p E' L' h1 h2 h3 h4 hr ih=>
  rw[List.map_cons,List.nodup_cons]at hk
  show RL keys (delK (y::E') (kOf keys i)) (if p.1=i then L' else p::delL L' i)
  by_cases e:p.1=i
  ·have ey:y.k=kOf keys i:=by rw[h1,e]
   rw[if_pos e]
   unfold delK
   rw[List.filter_cons_of_neg (by simp[ey])]
   have:=nu (E:=E') (λz hz q=>hk.1 (by rw[ey];exact List.mem_map.2 ⟨z,hz,q⟩))
   unfold delK at this
   rw[this];exact hr
  ·have ey:y.k≠kOf keys i:=λq=>e (n8 hn hl h3 hi (h1.symm.trans q))
   rw[if_neg e]
   unfold delK
   rw[List.filter_cons_of_pos (by simpa using ey)]
   exact .cons h1 h2 h3 h4 (ih hk.2)
theorem RL.nth(h:RL keys E L){n:Nat}(hn:n<L.length): ∃hE:n<E.length,E[n].k=kOf keys L[n].1/\E[n].v=8*L[n].2/\(0<=L[n].1/\L[n].1<40)/\(0<=L[n].2/\L[n].2<1000):=by
 induction h generalizing n with
 | nil=>exact absurd hn (by simp)
 | cons h1 h2 h3 h4 _ ih=>
  cases n with
  | zero=>exact⟨by simp,h1,h2,h3,h4⟩
  | succ n=>
   obtain⟨hE,h⟩:=ih (n:=n) (by simpa using hn)
   exact⟨by simpa using hE,h⟩
theorem RL.once(h:RL keys E L)(hk:(E.map Ent.k).Nodup):(L.map Prod.fst).Nodup:=by
 induction h with
 | nil=>exact List.nodup_nil
 | @cons y p E' L' h1 h2 h3 h4 hr ih=>
  rw[List.map_cons,List.nodup_cons]at hk⊢
  refine⟨λhm=>?_,ih hk.2⟩
  obtain⟨q,hq,e⟩:=List.mem_map.1 hm
  obtain⟨z,hz,hzk,_⟩:=hr.has hq
  exact hk.1 (by rw[h1,<-e,<-hzk];exact List.mem_map_of_mem hz)
theorem RL.few(h:RL keys E L)(hk:(E.map Ent.k).Nodup):E.length<=40:=by
 rw[h.len]
 have h1:=h.once hk
 have h2: ∀p∈L,0<=p.1/\p.1<40:=λp hp=>((RL.rel h).2 p hp).1
 have h3:((L.map Prod.fst).map Int.toNat).Nodup:=by
  unfold List.Nodup
  rw[List.pairwise_map]
  refine List.Pairwise.imp_of_mem (λha hb hne e=>?_) h1
  obtain⟨p,hp,rfl⟩:=List.mem_map.1 ha
  obtain⟨q,hq,rfl⟩:=List.mem_map.1 hb
  have:=h2 p hp;have:=h2 q hq
  omega
 have h4:((L.map Prod.fst).map Int.toNat) ⊆ List.range 40:=λa ha=>by
  simp only[List.mem_map,List.mem_range]at ha⊢
  obtain⟨_,⟨p,hp,rfl⟩,rfl⟩:=ha
  have:=h2 p hp;omega
 have:=rM 40 _ h3 (λa ha=>List.mem_range.1 (h4 ha))
 simpa using this
end
