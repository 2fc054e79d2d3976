/-
 What is come to from words (audit): one word more. Proves nothing of any one statement.
-/
import Derived.Test.YtojbbgcjiaphjaaGreatAuD
import Derived.Test.YtojbbgcjiaphjaaGreatFaudit1
import Derived.Test.YtojbbgcjiaphjaaGreatRead
set_option linter.unusedVariables false
set_option linter.unusedSimpArgs false
namespace Go.Proofs.YtojbbgcjiaphjaaGreat
open Go

def addW(m:Mem)(L:List Int)(w:Int):List Int:=if m.sizeOf w>0/\w ∉ L then L++[w]else L
structure CmAt (m:Mem) (A:zV) (b3 b4 mr n0:Nat) (L:List Int) (T:List Nat):Prop where
 num:A[b3]?=some (.cells #[.map (some mr)] 100 (0,0))
 map: ∃(es:Array MapEntry) (cl:Nat) (ks:List (Int×Value)),A[mr]?=some (.map es cl)/\Ents (bT .u64) es.toList ks/\ ∀w,mget ks w=if w∈L then some (.int .i64 (L.idxOf w+1:Nat))else none
 lst: ∃(B:zW) (c:Nat),A[b4]?=some (.cells #[.slice B L.length c] 29 (0,0))/\Own A 40 1 B L.length c (wvs L)/\T=blks B/\ ∀j∈blks B,n0<=j/\j<A.size
 ne:(b3≠b4/\b3≠mr/\b4≠mr)/\b3<n0/\b4<n0/\mr<n0
 nod:L.Nodup
 pos: ∀w∈L,m.sizeOf w>0/\aP w
theorem CmAt.ext{m:Mem}{A A':zV}{b3 b4 mr n0:Nat}{L:List Int}{T:List Nat}(h:CmAt m A b3 b4 mr n0 L T)(e:Ext A A'):CmAt m A' b3 b4 mr n0 L T:=by
 obtain⟨es,cl,ks,h1,h2,h3⟩:=h.map
 obtain⟨B,c,k1,k2,k3,k4⟩:=h.lst
 exact⟨e.get h.num,⟨es,cl,ks,e.get h1,h2,h3⟩,⟨B,c,e.get k1,k2.ext e,k3,λj hj=>⟨(k4 j hj).1,by have:=(k4 j hj).2;have:=e.size;omega⟩⟩,h.ne,h.nod,h.pos⟩
theorem CmAt.at(m:Mem){A:zV}{b3 b4 mr n0:Nat}{L:List Int}{T:List Nat}(h:CmAt m A b3 b4 mr n0 L T): ∀j∈T,n0<=j/\j<A.size:=by
 obtain⟨B,c,k1,k2,rfl,k4⟩:=h.lst
 exact k4
set_option maxRecDepth 100000 in
set_option maxHeartbeats 1000000 in
theorem ow{A:zV}{b:Blk}{x:Hp}{b0 b3 b4 mr n0:Nat}{L:List Int}{T:List Nat}{w:Int}(hp:HpAt A b x)(ok:SpOK x.sp)(h0:A[b0]?=some (.cells #[.pointer (some ⟨b.h,0,none⟩)] 28 (0,0)))
  (C:CmAt x.sp.mem A b3 b4 mr n0 L T) (hw:aP w) (hl:L.length<=1000000) (hn0:n0<=A.size):
  fE.C w (some ⟨b0,0,none⟩) (some ⟨b3,0,none⟩) (some ⟨b4,0,none⟩) A (λv A'=>v=.tuple #[]/\ ∃T',CmAt x.sp.mem A' b3 b4 mr n0 (addW x.sp.mem L w) T'/\Fr ([b4,mr]++T) A A'/\ ∀j∈T',j∈T\/A.size<=j):=by
 refine HC.via λR hR=>fE.link ?_
 unfold fE.pt
 have hm:mof (some (b,x))=x.sp.mem:=rfl
 refine⟨_,rfl,_,by rw[aI h0];rfl,HC.mono (j1 hp) ?_⟩
 rintro _ AA ⟨rfl,hAA⟩
 obtain rfl:A=AA:=hAA.symm
 refine⟨_,rfl,?_⟩
 rw[if_neg (by decide)]
 refine⟨_,by rw[aI h0];rfl,HC.mono (iZ (.real hp ok) hw) ?_⟩
 rw[hm]
 rintro _ H2 ⟨rfl,e2⟩
 refine⟨_,rfl,?_⟩
 have C2:=C.ext e2
 have z2:=e2.size
 have stay:addW x.sp.mem L w=L->R (.tuple #[]) H2:=λe=>hR _ _ ⟨rfl,T,by rw[e];exact C2,e2.fr,λj hj=> .inl hj⟩
 by_cases hs:x.sp.mem.sizeOf w>0
 case neg=>rw[if_neg hs];exact stay (by unfold addW;rw[if_neg (λh=>hs h.1)])
 rw[if_pos hs]
 obtain⟨es,cl,ks,m1,m2,m3⟩:=C2.map
 obtain⟨⟨n1,n2,n3⟩,n4,n5,n6⟩:=C2.ne
 refine⟨_,rfl,some mr,by rw[aI C2.num];rfl,mr,rfl,es,cl,ks,m1,m2,(if w∈L then((L.idxOf w+1:Nat):Int)else 0),by rw[m3 w];split<;>rfl,?_⟩
 by_cases hwL:w∈L
 ·rw[if_pos hwL,if_neg (by omega)]
  exact stay (by unfold addW;rw[if_neg (λh=>h.2 hwL)])
 rw[if_neg hwL,if_pos rfl]
 have hadd:addW x.sp.mem L w=L++[w]:=by unfold addW;rw[if_pos ⟨hs,hwL⟩]
 obtain⟨B,c,k1,k2,rfl,k4⟩:=C2.lst
 refine⟨_,rfl,B,_,c,by rw[aI k1];rfl,λb5 H3 hb5 hH3=>?_⟩
 have e3:Ext H2 H3:=Ext.push' hH3
 have z3:=e3.size
 refine fG (ys:=wvs [w]) (k2.ext e3) (fL (aG hb5 hH3) _ 0 0 (λj hj=>by simp at hj;subst hj;rfl)) rfl (gM _) rfl (by omega) ?_
 intro p' c' H4 o4 f4 hnew
 have hB: ∀i,i<n0->i ∉ blks B:=λi hi h=>by have:=(k4 i h).1;omega
 obtain⟨c5,s5⟩:=kC (f4.get (hB b4 n5) (e3.get k1)) 0 (.slice p' (L.length+1) c') (by simp)
 rw[kl]at c5 s5
 refine⟨c5,λH5 hH5=>?_⟩
 obtain⟨g5,f5⟩:=s5 H5 hH5
 have num5:=f5.get (by simp;exact n1) (f4.get (hB b3 n4) (e3.get C2.num))
 have map5:=f5.get (by simp;omega) (f4.get (hB mr n6) (e3.get m1))
 have hp'n: ∀j∈blks p',n0<=j:=λj hj=>by
  rcases hnew j hj with h | h
  ·exact(k4 j h).1
  ·omega
 have z4:=f4.size
 have z5:=f5.size
 have o5:=o4.keep f5 (λj hj h=>by have:=hp'n j hj;simp at h;omega)
 refine⟨some mr,by rw[aI num5];rfl,_,_,_,by rw[aI g5];rfl,mr,rfl,es,cl,ks,map5,m2,λes3 cl3 H6 hH6 hes3=>?_⟩
 have f6:Fr [mr] H5 H6:=by rw[hH6];exact Fr.set
 have map6:H6[mr]?=some (.map es3 cl3):=by rw[hH6];exact aX (aO map5)
 have o6:=o5.keep f6 (λj hj h=>by have:=hp'n j hj;simp at h;omega)
 have z6:=f6.size
 refine hR _ _ ⟨rfl,blks p',⟨f6.get (by simp;exact n2) num5,⟨es3,cl3,_,map6,hes3,λu=>?_⟩,⟨p',c',?_,?_,rfl,λj hj=>⟨hp'n j hj,o6.lt j hj⟩⟩,C.ne,?_,λu hu=>?_⟩,?_,λj hj=>?_⟩
 ·rw[jm,m3 u,hadd]
  by_cases huw:u=w
  ·subst huw
   rw[if_pos rfl,if_pos (by simp),List.idxOf_append,if_neg hwL]
   simp
  ·rw[if_neg huw]
   by_cases huL:u∈L
   ·rw[if_pos huL,if_pos (by simp[huL]),List.idxOf_append,if_pos huL]
   ·rw[if_neg huL,if_neg (by simp[huL,huw])]
 ·rw[hadd,List.length_append]
  exact f6.get (by simp;exact n3) g5
 ·rw[hadd,List.length_append]
  have e:wvs (L++[w])=wvs L++wvs [w]:=by unfold wvs;rw[List.map_append]
  rw[e];exact o6
 ·rw[hadd,List.nodup_append]
  exact⟨C.nod,by simp,λa ha d hd=>by simp at hd;rw[hd];exact λq=>hwL (q▸ha)⟩
 ·rw[hadd]at hu
  rcases List.mem_append.1 hu with h | h
  ·exact C.pos u h
  ·simp at h;subst h;exact⟨hs,hw⟩
 ·have a:Fr ([b4,mr]++blks B) A H3:=(e2.trans e3).fr
  exact((a.trans (f4.mono (λi hi _=>List.mem_append_right _ hi))).trans (f5.mono (λi hi _=>by simp at hi;simp[hi]))).trans (f6.mono (λi hi _=>by simp at hi;simp[hi]))
 ·rcases hnew j hj with h | h
  ·exact .inl h
  ·right;omega

theorem lI: ∀(n:Nat) (L:List Int),L.Nodup->(∀k∈L,0<=k/\k<n)->L.length<=n
  | 0,[],_,_=>Nat.le_refl _
  | 0,a::L,_,h=>by have:=h a (by simp);omega
  | n+1,L,hn,h=>by
    have h1:=lI n (L.filter λk:Int=>decide (k≠(n:Int))) (hn.filter _) (λk hk=>by
      rw[List.mem_filter,decide_eq_true_eq]at hk
      have:=h k hk.1;omega)
    have h2:L.length<=(L.filter λk:Int=>decide (k≠(n:Int))).length+1:=by
      by_cases hm:(n:Int)∈L
      · obtain⟨l1,l2,rfl⟩:=List.append_of_mem hm
        have hnd:=List.nodup_append.1 hn
        have a1: ∀k∈l1,decide (k≠(n:Int))=true:=λk hk=>by
          rw[decide_eq_true_eq];exact λq=>hnd.2.2 k hk (n:Int) (by simp) q
        have a2: ∀k∈l2,decide (k≠(n:Int))=true:=λk hk=>by
          rw[decide_eq_true_eq];exact λq=>(List.nodup_cons.1 hnd.2.1).1 (q▸hk)
        rw[List.filter_append,List.filter_cons_of_neg (by simp),List.filter_eq_self.2 a1,List.filter_eq_self.2 a2]
        simp only[List.length_append,List.length_cons];omega
      · have a1: ∀k∈L,decide (k≠(n:Int))=true:=λk hk=>by
          rw[decide_eq_true_eq];exact λq=>hm (q▸hk)
        rw[List.filter_eq_self.2 a1];omega
    omega
theorem CmAt.len{m:Mem}{A:zV}{b3 b4 mr n0:Nat}{L:List Int}{T:List Nat}(h:CmAt m A b3 b4 mr n0 L T):L.length<=524288:=by
  refine lI 524288 L h.nod λk hk=>?_
  obtain⟨h1,h2⟩:=h.pos k hk
  have hz:m.sizeOf k≠0:=by omega
  unfold Mem.sizeOf at hz
  by_cases hp:m.isPair k
  · rcases hp.1 with q | q
    · have:=q.1.2;have:=h2.1;omega
    · have:=q.1.2;have:=h2.1;omega
  · rw[if_neg hp]at hz
    by_cases ho:m.isObj k
    · have:=ho.1.1.2;have:=h2.1;omega
    · rw[if_neg ho]at hz;exact absurd rfl hz
theorem kI{K:zV->Prop}: ∀(ms:List Nat) (A:zV),ms.Nodup->(∀D∈ms,A[D]?=some (.deferred (some [])))->(∀A',Fr ms A A'->K A')->Shut ms A K
  | [],A,_,_,h=>h A (Fr.refl _ _)
  | D::ms,A,hn,hd,h=>by
    rw[List.nodup_cons]at hn
    have f:Fr [D] A (A.setIfInBounds D (.deferred none)):=Fr.set
    refine⟨hd D (by simp),kI ms _ hn.2 (λE hE=>f.get (by simp;exact λq=>hn.1 (q▸hE)) (hd E (by simp[hE]))) λA' fA=>h A' ?_⟩
    exact(f.mono (λi hi _=>by simp at hi;simp[hi])).trans (fA.mono (λi hi _=>by simp[hi]))
theorem pE(m:Mem)(L:List Int)(w:Int){k:Nat}{v:Int}(h:L[k]?=some v):(addW m L w)[k]?=some v:=by
  unfold addW
  split
  · rw[List.getElem?_append_left (by exact(List.getElem?_eq_some_iff.1 h).1)];exact h
  · exact h
theorem mn(m:Mem): ∀(vs L:List Int) {k:Nat} {v:Int},L[k]?=some v->(vs.foldl (addW m) L)[k]?=some v
  | [],_,_,_,h=>h
  | w::vs,L,_,_,h=>mn m vs _ (pE m L w h)
set_option maxRecDepth 100000 in
theorem oU{A:zV}{b:Blk}{x:Hp}{b0 b3 b4 b5 mr n0:Nat}{Q:zV->Prop}{rB:zW}{rN:Nat}{roots:List Int}(hp:HpAt A b x)(ok:SpOK x.sp)(hb: ∀j∈b.all,j<n0)(h0:A[b0]?=some (.cells #[.pointer (some ⟨b.h,0,none⟩)] 28 (0,0)))
    (h5:A[b5]?=some (.cells #[.func (.func 93) #[] #[.pointer (some (Addr.mk b0 0 none)),.pointer (some (Addr.mk b3 0 none)),.pointer (some (Addr.mk b4 0 none))]] 165 (0,0)))
    (hlt:b0<n0/\b5<n0/\n0<=A.size/\b4 ∉ b.all/\mr ∉ b.all/\b4≠b0/\b4≠b5/\mr≠b0/\mr≠b5) (C:CmAt x.sp.mem A b3 b4 mr n0 [] [])
    (hr:Nums A .u64 rB rN roots) (hrn:rN<=1000000) (hrb: ∀j∈blks rB,j<n0/\j≠b4/\j≠mr) (hrw: ∀w∈roots,aP w)
    (hQ: ∀A' T,CmAt x.sp.mem A' b3 b4 mr n0 (roots.foldl (addW x.sp.mem) []) T->(∀j∈T,A.size<=j)->Fr [b4,mr] A A'->Q A'):
    ∃(I15:zw) (m15:Int->zV->Nat),I15 0 A/\ ∀(s18:Int) (H8:zV),I15 s18 H8->
    if s18< (rN:Int)then(
     ∃rootsBA:Addr,rB=some rootsBA/\
     ((0:Int)<=s18/\s18< (rN:Int))/\
     ∃x:Int,hat H8 (rootsBA.add (Int.toNat s18*1))=some (.int .u64 x)/\
     ∃x_2:Value,hat H8 (Addr.mk b5 0 none)=some (x_2)/\
     FC Tryz.prog x_2 #[.int .u64 x] H8 (λ_ H9=>
      (I15 (IntKind.wrap .i64 (s18+1)) H9/\m15 (IntKind.wrap .i64 (s18+1)) H9<m15 s18 H8)))
    else Q H8:=by
  obtain⟨q0,q5,qn,p4,p5,p6,p7,p8,p9⟩:=hlt
  have hrl:=hr.len
  refine⟨λi A'=> ∃k:Nat,i=k/\k<=rN/\Fr [b4,mr] A A'/\ ∃T,CmAt x.sp.mem A' b3 b4 mr n0 ((roots.take k).foldl (addW x.sp.mem) []) T/\ ∀j∈T,A.size<=j,λi _=>((rN:Int)-i).toNat,⟨0,rfl,by omega,Fr.refl _ _,[],by rw[List.take_zero];exact C,by simp⟩,?_⟩
  rintro _ A' ⟨k,rfl,hk,fA,T,CA,hfresh⟩
  by_cases hlt:(k:Int)< (rN:Int)
  case neg=>
    rw[if_neg hlt]
    rw[List.take_of_length_le (by omega)]at CA
    exact hQ A' T CA hfresh fA
  rw[if_pos hlt]
  have hkl:k<roots.length:=by omega
  obtain⟨a,ha1,ha⟩:=hr.at hkl
  have hab:a.block∈blks rB:=by rw[ha1];simp
  have hnS: ∀j,j≠b4->j≠mr->j ∉ [b4,mr]:=λj h1 h2=>by simp;exact⟨h1,h2⟩
  have ha':hat A' (a.add (k*1))=some (.int .u64 roots[k]):=fA.hat (by
    rw[show(a.add (k*1)).block=a.block by unfold Addr.add;split<;>rfl]
    exact hnS _ (hrb _ hab).2.1 (hrb _ hab).2.2) ha
  refine⟨a,ha1,⟨by omega,hlt⟩,_,by rw[show Int.toNat (k:Int)=k by omega];exact ha',_,by rw[aI (fA.get (hnS _ p7.symm p9.symm) h5)];rfl,?_⟩
  have hpA:=hp.keep fA (λi hi=>by simp at hi;rcases hi with rfl | rfl<;>assumption)
  refine FC.of (enters_of Tryz.func93 (by kernel_rfl) rfl) (HC.mono (ow hpA ok (fA.get (hnS _ p6.symm p8.symm) h0) CA (hrw _ (List.getElem_mem hkl)) (by have:=CA.len;omega) (by have:=fA.size;omega)) ?_)
  rintro _ A2 ⟨rfl,T2,C2,f2,hT2⟩
  have hw:IntKind.wrap .i64 ((k:Int)+1)=((k+1:Nat):Int):=by rw[w64 (n:=(k:Int)+1) (by omega)];omega
  rw[hw]
  have hTn:=CA.at
  refine⟨⟨k+1,rfl,by omega,fA.trans' f2 (λ_ h _=>h) (λj hj hl=>?_),T2,?_,λj hj=>?_⟩,by show((rN:Int)-((k+1:Nat):Int)).toNat< ((rN:Int)-(k:Int)).toNat;omega⟩
  · rcases List.mem_append.1 hj with h | h
    · exact h
    · have:=hfresh j h;omega
  · rw[List.take_succ_eq_append_getElem hkl,List.foldl_append];exact C2
  · rcases hT2 j hj with h | h
    · exact hfresh j h
    · have:=fA.size;omega

def ko(w:Int)(p:Int×Int):Bool:=decide (w % 8≠2\/p.1>aOf w)
def visL(w:Int)(l:List (Int×Int)):List Int:=(l.filter (ko w)).map Prod.snd
theorem pF(w:Int)(l:List (Int×Int)){p:Int×Int}(h:ko w p=true):visL w (l++[p])=visL w l++[p.2]:=by
  unfold visL;rw[List.filter_append,List.filter_cons_of_pos h,List.map_append];rfl
theorem qh(w:Int)(l:List (Int×Int)){p:Int×Int}(h: ¬ko w p=true):visL w (l++[p])=visL w l:=by
  unfold visL;rw[List.filter_append,List.filter_cons_of_neg h];simp
def jv(m:Mem)(L:List Int)(i:Nat):List Int:=match L[i]? with | none=>L | some w=>(visL w (bQ m w)).foldl (addW m) L
def fZ(m:Mem)(roots:List Int):Nat->List Int
  | 0=>roots.foldl (addW m) []
  | i+1=>jv m (fZ m roots i) i
theorem CmAt.keep{m:Mem}{A A':zV}{b3 b4 mr n0:Nat}{L:List Int}{T S:List Nat}(h:CmAt m A b3 b4 mr n0 L T)(f:Fr S A A')(hS:b3 ∉ S/\b4 ∉ S/\mr ∉ S)(hT: ∀j∈T,j ∉ S):CmAt m A' b3 b4 mr n0 L T:=by
  obtain⟨es,cl,ks,h1,h2,h3⟩:=h.map
  obtain⟨B,c,k1,k2,rfl,k4⟩:=h.lst
  exact⟨f.get hS.1 h.num,⟨es,cl,ks,f.get hS.2.2 h1,h2,h3⟩,⟨B,c,f.get hS.2.1 k1,k2.keep f hT,rfl,λj hj=>⟨(k4 j hj).1,by have:=(k4 j hj).2;have:=f.size;omega⟩⟩,h.ne,h.nod,h.pos⟩
section
variable {A:zV} {b:Blk} {x:Hp} {b0 b3 b4 b5 mr n0:Nat} {L:List Int} {T:List Nat} {w:Int}
set_option maxRecDepth 100000 in
theorem oz{H Hs:zV}{v:Int}{K:zv}(hp:HpAt H b x)(ok:SpOK x.sp)(h0:H[b0]?=some (.cells #[.pointer (some ⟨b.h,0,none⟩)] 28 (0,0)))
    (h5:H[b5]?=some (.cells #[.func (.func 93) #[] #[.pointer (some (Addr.mk b0 0 none)),.pointer (some (Addr.mk b3 0 none)),.pointer (some (Addr.mk b4 0 none))]] 165 (0,0)))
    (C:CmAt x.sp.mem H b3 b4 mr n0 L T) (hv:aP v) (hn:n0<=H.size) (ex:Ext H Hs)
    (hK: ∀r Hx T2,CmAt x.sp.mem Hx b3 b4 mr n0 (addW x.sp.mem L v) T2->Fr ([b4,mr]++T) H Hx->(∀j∈T2,j∈T\/H.size<=j)->K r Hx):
    ∃x_16:Value,hat Hs (Addr.mk b5 0 none)=some (x_16)/\FC Tryz.prog x_16 #[.int .u64 v] Hs K:=by
  have zs:=ex.size
  refine⟨_,by rw[aI (ex.get h5)];rfl,?_⟩
  refine FC.of (enters_of Tryz.func93 (by kernel_rfl) rfl) (HC.mono (ow (hp.ext ex) ok (ex.get h0) (C.ext ex) hv (by have:=C.len;omega) (by omega)) ?_)
  rintro _ Hx ⟨rfl,T2,C2,f2,hT2⟩
  refine hK _ _ T2 C2 (ex.fr.trans f2) (λj hj=>?_)
  rcases hT2 j hj with h | h
  · exact .inl h
  · right;omega
theorem qi{D H16 Hx:zV}{lp z:Nat}{rc:LoopState->Option Code->Obj}{T1 T2 U:List Nat}{L2:List Int}(hD:D.size<=H16.size)(f5:Fr [lp] D H16)(hz:z<=D.size)(hlp:lp<D.size/\lp ∉ T1/\lp≠b3/\lp≠b4/\lp≠mr)(q:H16[lp]?=some (rc .busy none))(hT1: ∀j∈T1,j∈T\/j∈U)(hU: ∀j∈U,z<=j)
    (C:CmAt x.sp.mem Hx b3 b4 mr n0 L2 T2) (f2:Fr ([b4,mr]++T1) H16 Hx) (hT2: ∀j∈T2,j∈T1\/H16.size<=j):
    Hx[lp]?=some (rc .busy none)/\ ∃T':List Nat,((aF Hx lp (rc .ready none))[lp]?=some (rc .ready none)/\(∀j∈T',z<=j)/\ ∃T3:List Nat,CmAt x.sp.mem (aF Hx lp (rc .ready none)) b3 b4 mr n0 L2 T3/\ ∀j∈T3,j∈T\/j∈T')/\
      Fr (([lp,b4,mr]++T)++U) D (aF Hx lp (rc .ready none))/\ ∀j∈T',j∈U\/D.size<=j:=by
  obtain⟨l0,l1,l2,l3,l4⟩:=hlp
  have lpn:lp ∉ [b4,mr]++T1:=λh=>by
    rcases List.mem_append.1 h with h | h
    · simp at h;omega
    · exact l1 h
  have qx:=f2.get lpn q
  have f9:Fr [lp] Hx (aF Hx lp (rc .ready none)):=Fr.set
  have hT2lp: ∀j∈T2,j≠lp:=λj hj e=>by
    rcases hT2 j hj with h | h
    · exact l1 (e▸h)
    · omega
  refine⟨qx,T2.filter (λj=>decide (D.size<=j))++U,⟨aX (aO qx),λj hj=>?_,T2,C.keep f9 ⟨by simp;omega,by simp;omega,by simp;omega⟩ (λj hj=>by simp;exact hT2lp j hj),λj hj=>?_⟩,?_,λj hj=>?_⟩
  · rcases List.mem_append.1 hj with h | h
    · have h2:=(List.mem_filter.1 h).2
      rw[decide_eq_true_eq]at h2;omega
    · exact hU j h
  · rcases hT2 j hj with h | h
    · rcases hT1 j h with h | h
      · exact .inl h
      · exact .inr (List.mem_append_right _ h)
    · exact .inr (List.mem_append_left _ (List.mem_filter.2 ⟨hj,by rw[decide_eq_true_eq];omega⟩))
  · have a1:Fr (([lp,b4,mr]++T)++U) D H16:=f5.mono (λi hi _=>by simp at hi;simp[hi])
    have a2:Fr (([lp,b4,mr]++T)++U) H16 Hx:=f2.mono (λi hi _=>by
      rcases List.mem_append.1 hi with h | h
      · simp at h;rcases h with h | h<;>simp[h]
      · rcases hT1 i h with h | h<;>simp[h])
    exact(a1.trans a2).trans (f9.mono (λi hi _=>by simp at hi;simp[hi]))
  · rcases List.mem_append.1 hj with h | h
    · have h2:=(List.mem_filter.1 h).2
      rw[decide_eq_true_eq]at h2;exact .inr h2
    · exact .inl h
set_option maxRecDepth 100000 in
theorem qj{D:zV}{k iA lp:Nat}{a v:Int}{rc:LoopState->Option Code->Obj}{T1:List Nat}{L1:List Int}{K:zv}(hp:HpAt D b x)(ok:SpOK x.sp)(h0:D[b0]?=some (.cells #[.pointer (some ⟨b.h,0,none⟩)] 28 (0,0)))
    (h5:D[b5]?=some (.cells #[.func (.func 93) #[] #[.pointer (some (Addr.mk b0 0 none)),.pointer (some (Addr.mk b3 0 none)),.pointer (some (Addr.mk b4 0 none))]] 165 (0,0)))
    (C:CmAt x.sp.mem D b3 b4 mr n0 L1 T1) (hk:L1[k]?=some w) (hw:aP w) (hv:aP v) (hi:D[iA]?=some (.cells #[.int .i64 (k:Int)] 3 (0,0)))
    (ql:D[lp]?=some (rc .ready none)) (hl:lp ∉ b.all/\lp ∉ T1/\lp≠b0/\lp≠b5/\lp≠iA/\lp≠b3/\lp≠b4/\lp≠mr) (hn:n0<=D.size)
    (hK: ∀H16 Hx L2 T2,Fr [lp] D H16->H16.size=D.size->H16[lp]?=some (rc .busy none)->L2=(if ko w (a,v)=true then addW x.sp.mem L1 v else L1)->CmAt x.sp.mem Hx b3 b4 mr n0 L2 T2->Fr ([b4,mr]++T1) H16 Hx->(∀j∈T2,j∈T1\/H16.size<=j)->Hx[lp]?=some (rc .busy none)/\K (.bool true) (aF Hx lp (rc .ready none))):
    (D[lp]?=some (rc .ready none)/\ ∀H16:zV,H16=aF D lp (rc .busy none)->
    ∃xB_3:zW,∃xN_3:Nat,∃xC_3:Nat,hat H16 (Addr.mk b4 0 none)=some (.slice xB_3 xN_3 xC_3)/\
    ∃x_10:Int,hat H16 (Addr.mk iA 0 none)=some (.int .i64 x_10)/\
    ∃xB3A:Addr,xB_3=some xB3A/\
    ((0:Int)<=x_10/\x_10< (xN_3:Int))/\
    ∃x_11:Int,hat H16 (xB3A.add (Int.toNat x_10*1))=some (.int .u64 x_11)/\
    bZ.C x_11 H16 (λv_3 H17=> ∃x_12:Int,v_3=.int .i64 x_12/\
     if x_12=2 then(
      ∃xB_4:zW,∃xN_4:Nat,∃xC_4:Nat,hat H17 (Addr.mk b4 0 none)=some (.slice xB_4 xN_4 xC_4)/\
      ∃x_13:Int,hat H17 (Addr.mk iA 0 none)=some (.int .i64 x_13)/\
      ∃xB4A:Addr,xB_4=some xB4A/\
      ((0:Int)<=x_13/\x_13< (xN_4:Int))/\
      ∃x_14:Int,hat H17 (xB4A.add (Int.toNat x_13*1))=some (.int .u64 x_14)/\
      cV.C x_14 H17 (λv_4 H18=> ∃x_15:Int,v_4=.int .i64 x_15/\
       if a>x_15 then(
        ∃x_16:Value,hat H18 (Addr.mk b5 0 none)=some (x_16)/\
        FC Tryz.prog x_16 #[.int .u64 v] H18 (λ_ H19=>
         H19[lp]?=some (rc .busy none)/\
         K (.bool true) (aF H19 lp (rc .ready none))))
       else
       H18[lp]?=some (rc .busy none)/\
       K (.bool true) (aF H18 lp (rc .ready none))))
     else
     ∃x_17:Value,hat H17 (Addr.mk b5 0 none)=some (x_17)/\
     FC Tryz.prog x_17 #[.int .u64 v] H17 (λ_ H20=>
      H20[lp]?=some (rc .busy none)/\
      K (.bool true) (aF H20 lp (rc .ready none))))):=by
  obtain⟨l1,l2,l3,l4,l5,l6,l7,l8⟩:=hl
  refine⟨ql,λH16 hH16=>?_⟩
  have f5:Fr [lp] D H16:=by rw[hH16];exact Fr.set
  have z16:H16.size=D.size:=by rw[hH16];unfold aF;simp
  have ql16:H16[lp]?=some (rc .busy none):=by rw[hH16];exact aX (aO ql)
  have ns: ∀j,lp≠j->j ∉ [lp]:=λj h=>by simp;exact λe=>h e.symm
  have C16:=C.keep f5 ⟨ns _ l6,ns _ l7,ns _ l8⟩ (λj hj=>ns _ (λe=>l2 (e▸hj)))
  have i16:=f5.get (ns _ l5) hi
  have b516:=f5.get (ns _ l4) h5
  have b016:=f5.get (ns _ l3) h0
  have hp16:=hp.keep f5 (λi hi2 hq=>by simp at hi2;exact l1 (hi2▸hq))
  clear hH16
  have hkl:k<L1.length:=(List.getElem?_eq_some_iff.1 hk).1
  have hLe:L1[k]=w:=by rw[List.getElem?_eq_getElem hkl]at hk;exact Option.some.inj hk
  have rd: ∀{Hx:zV},Ext H16 Hx-> ∃(B:zW) (c:Nat) (pa:Addr),hat Hx (Addr.mk b4 0 none)=some (.slice B L1.length c)/\B=some pa/\hat Hx (pa.add (Int.toNat (k:Int)*1))=some (.int .u64 w):=λex=>by
    obtain⟨B,c,k1,k2,_,_⟩:=C16.lst
    obtain⟨pa,h1,h2⟩:=jZ k2.src hkl
    rw[hLe]at h2
    exact⟨B,c,pa,by rw[aI (ex.get k1)];rfl,h1,by rw[show Int.toNat (k:Int)=k by omega];exact ex.hat h2⟩
  obtain⟨B,c,pa,r1,r2,r3⟩:=rd (Ext.refl _)
  refine⟨B,_,c,r1,(k:Int),by rw[aI i16];rfl,pa,r2,⟨by omega,by omega⟩,w,r3,?_⟩
  refine HC.mono (fK hw) ?_
  rintro _ H17 ⟨rfl,e17⟩
  refine⟨_,rfl,?_⟩
  by_cases h2:w % 8=2
  · rw[if_pos h2]
    obtain⟨B',c',pa',r1',r2',r3'⟩:=rd e17
    refine⟨B',_,c',r1',(k:Int),by rw[aI (e17.get i16)];rfl,pa',r2',⟨by omega,by omega⟩,w,r3',?_⟩
    refine HC.mono (kf hw) ?_
    rintro _ H18 ⟨rfl,e18⟩
    refine⟨_,rfl,?_⟩
    by_cases hgt:a>aOf w
    · rw[if_pos hgt]
      refine oz hp16 ok b016 b516 C16 hv (by omega) (e17.trans e18) λr Hx T2 C2 f2 hT2=>hK H16 Hx _ T2 f5 z16 ql16 ?_ C2 f2 hT2
      rw[if_pos (by unfold ko;rw[decide_eq_true_eq];exact .inr hgt)]
    · rw[if_neg hgt]
      refine hK H16 H18 L1 T1 f5 z16 ql16 ?_ (C16.ext (e17.trans e18)) (e17.trans e18).fr (λj hj=> .inl hj)
      rw[if_neg (by unfold ko;rw[decide_eq_true_eq];intro q;rcases q with q | q;exact q h2;exact hgt q)]
  · rw[if_neg h2]
    refine oz hp16 ok b016 b516 C16 hv (by omega) e17 λr Hx T2 C2 f2 hT2=>hK H16 Hx _ T2 f5 z16 ql16 ?_ C2 f2 hT2
    rw[if_pos (by unfold ko;rw[decide_eq_true_eq];exact .inl h2)]
set_option maxRecDepth 100000 in
theorem nS{k iA:Nat}{Kp:(LoopState->Option Code->Obj)->Nat->zV->zV->Prop}(hp:HpAt A b x)(ok:SpOK x.sp)(hb: ∀j∈b.all,j<n0)(h0:A[b0]?=some (.cells #[.pointer (some ⟨b.h,0,none⟩)] 28 (0,0)))
    (h5:A[b5]?=some (.cells #[.func (.func 93) #[] #[.pointer (some (Addr.mk b0 0 none)),.pointer (some (Addr.mk b3 0 none)),.pointer (some (Addr.mk b4 0 none))]] 165 (0,0)))
    (hlt:b0<n0/\b5<n0/\n0<=A.size/\b4 ∉ b.all/\mr ∉ b.all/\b4≠b0/\b4≠b5/\mr≠b0/\mr≠b5) (C:CmAt x.sp.mem A b3 b4 mr n0 L T) (hk:L[k]?=some w) (hw:aP w)
    (hi:A[iA]?=some (.cells #[.int .i64 (k:Int)] 3 (0,0))) (hiT:iA ∉ T/\n0<=iA)
    (hK: ∀rc lp H13 A' T',CmAt x.sp.mem A' b3 b4 mr n0 ((visL w (bQ x.sp.mem w)).foldl (addW x.sp.mem) L) T'->A.size<=H13.size->lp=H13.size+1->A'[H13.size]?=some (.deferred (some []))->A'[lp]?=some (rc .ready none)->H13.size ∉ T'->lp ∉ T'->Fr ([b4,mr]++T) A A'->(∀j∈T',j∈T\/A.size<=j)->Kp rc lp H13 A'):
    bA.C (some ⟨b.h,0,none⟩) w A (λv_2 H13=>v_2=v_2/\
   ∀(rc:LoopState->Option Code->Obj) (lp:Nat) (H14:zV),lp=H13.size+1->H14=(H13.push (.deferred (some []))).push (rc .ready none)->
   ∀vY:Value,(∀(x_8:Int) (x_9:Int) (H15:zV) (vRy:zv),H15[lp]?=some (rc .ready none)->
   (H15[lp]?=some (rc .ready none)/\ ∀H16:zV,H16=aF H15 lp (rc .busy none)->
    ∃xB_3:zW,∃xN_3:Nat,∃xC_3:Nat,hat H16 (Addr.mk b4 0 none)=some (.slice xB_3 xN_3 xC_3)/\
    ∃x_10:Int,hat H16 (Addr.mk iA 0 none)=some (.int .i64 x_10)/\
    ∃xB3A:Addr,xB_3=some xB3A/\
    ((0:Int)<=x_10/\x_10< (xN_3:Int))/\
    ∃x_11:Int,hat H16 (xB3A.add (Int.toNat x_10*1))=some (.int .u64 x_11)/\
    bZ.C x_11 H16 (λv_3 H17=> ∃x_12:Int,v_3=.int .i64 x_12/\
     if x_12=2 then(
      ∃xB_4:zW,∃xN_4:Nat,∃xC_4:Nat,hat H17 (Addr.mk b4 0 none)=some (.slice xB_4 xN_4 xC_4)/\
      ∃x_13:Int,hat H17 (Addr.mk iA 0 none)=some (.int .i64 x_13)/\
      ∃xB4A:Addr,xB_4=some xB4A/\
      ((0:Int)<=x_13/\x_13< (xN_4:Int))/\
      ∃x_14:Int,hat H17 (xB4A.add (Int.toNat x_13*1))=some (.int .u64 x_14)/\
      cV.C x_14 H17 (λv_4 H18=> ∃x_15:Int,v_4=.int .i64 x_15/\
       if x_8>x_15 then(
        ∃x_16:Value,hat H18 (Addr.mk b5 0 none)=some (x_16)/\
        FC Tryz.prog x_16 #[.int .u64 x_9] H18 (λ_ H19=>
         H19[lp]?=some (rc .busy none)/\
         vRy (.bool true) (aF H19 lp (rc .ready none))))
       else
       H18[lp]?=some (rc .busy none)/\
       vRy (.bool true) (aF H18 lp (rc .ready none))))
     else
     ∃x_17:Value,hat H17 (Addr.mk b5 0 none)=some (x_17)/\
     FC Tryz.prog x_17 #[.int .u64 x_9] H17 (λ_ H20=>
      H20[lp]?=some (rc .busy none)/\
      vRy (.bool true) (aF H20 lp (rc .ready none)))))->
   FC Tryz.prog vY #[.int .i64 x_8,.int .u64 x_9] H15 vRy)->
   FE Tryz.prog v_2 #[vY] H14 (λ_ H21=>Kp rc lp H13 H21)):=by
  obtain⟨q0,q5,qn,p4,p5,p6,p7,p8,p9⟩:=hlt
  obtain⟨⟨n1,n2,n3⟩,n4,n5,n6⟩:=C.ne
  have hTn:=C.at
  have hil:=aO hi
  refine bA.link ?_
  unfold bA.pt
  intro c0 H1 hc0 hH1 c1 H2 hc1 hH2
  have e1:Ext A H1:=Ext.push' hH1
  have e2:Ext H1 H2:=Ext.push' hH2
  have z1:H1.size=A.size+1:=by rw[hH1];simp
  have z2:H2.size=H1.size+1:=by rw[hH2];simp
  refine⟨rfl,λrc lp H14 hlp hH14 vY hY=>?_⟩
  have e3:Ext H2 H14:=(Ext.push' rfl).trans (Ext.push' hH14)
  have z3:H14.size=H2.size+2:=by rw[hH14];simp
  have gdef:H14[H2.size]?=some (.deferred (some [])):=by
    have:(H2.push (.deferred (some [])))[H2.size]?=some (.deferred (some [])):=aG rfl rfl
    exact(Ext.push' hH14).get this
  have glp:H14[lp]?=some (rc .ready none):=aG (by simp;omega) hH14
  have e:=(e1.trans e2).trans e3
  have hSn: ∀j,j∈[lp,b4,mr]++T->j=lp\/j=b4\/j=mr\/(n0<=j/\j<A.size):=λj hj=>by
    rcases List.mem_append.1 hj with h | h
    · simp at h;omega
    · exact .inr (.inr (.inr (hTn j h)))
  have iS:iA ∉ [lp,b4,mr]++T:=λh=>by
    rcases List.mem_append.1 h with h | h
    · simp at h;omega
    · exact hiT.1 h
  have dS:H2.size ∉ [lp,b4,mr]++T:=λh=>by have:=hSn _ h;omega
  have b5S:b5 ∉ [lp,b4,mr]++T:=λh=>by have:=hSn _ h;omega
  have b0S:b0 ∉ [lp,b4,mr]++T:=λh=>by have:=hSn _ h;omega
  refine FE.of2 (enters_of Tryz.func97 (by kernel_rfl) rfl) rfl (kQ (w:=w) (S:=[lp,b4,mr]++T)
    (J:=λl U D=>D[lp]?=some (rc .ready none)/\(∀j∈U,H14.size<=j)/\ ∃T1,CmAt x.sp.mem D b3 b4 mr n0 ((visL w l).foldl (addW x.sp.mem) L) T1/\ ∀j∈T1,j∈T\/j∈U)
    (hp.ext e) ok ((e2.trans e3).get (aG hc0 hH1)) (e3.get (aG hc1 hH2)) hw (λi hi2=>by
      have h:=hSn i hi2
      refine⟨λhq=>?_,by omega,by omega⟩
      have:=hb i hq
      rcases h with h | h | h | h
      · omega
      · exact p4 (h▸hq)
      · exact p5 (h▸hq)
      · omega) (λl U D D' ⟨h1,h2,T1,h3,h4⟩ ee=>⟨ee.get h1,h2,T1,h3.ext ee,h4⟩) (λl U D h j hj=>h.2.1 j hj)
    (λpre a v post U D hall f0 hJ=>?_) ⟨glp,by simp,T,C.ext e,λj hj=> .inl hj⟩ (λU D hJ f0=>?_))
  · obtain⟨ql,hU,T1,C1,hT1⟩:=hJ
    have hvw:aP v:=by
      have hm:(a,v)∈bQ x.sp.mem w:=by rw[hall];simp
      unfold bQ at hm
      split at hm
      · cases hm
      · obtain⟨i,_,hq⟩:=List.mem_map.1 hm
        cases hq
        exact Mem.read_word ok.mem _
    have z0:=f0.size
    have hT1n: ∀j∈T1,j≠lp/\j≠iA/\j≠H2.size:=λj hj=>by
      rcases hT1 j hj with h | h
      · have:=hTn j h
        exact⟨by omega,λq=>hiT.1 (q▸h),by omega⟩
      · have:=hU j h;omega
    have hpD:=(hp.ext e).keep f0 (λi hi2 hq=>by
      have h:=hSn i hi2
      have:=hb i hq
      rcases h with h | h | h | h
      · omega
      · exact p4 (h▸hq)
      · exact p5 (h▸hq)
      · omega)
    have iD:=f0.get iS (e.get hi)
    have b5D:=f0.get b5S (e.get h5)
    have b0D:=f0.get b0S (e.get h0)
    have lpb:lp ∉ b.all:=λq=>by have:=hb lp q;omega
    refine(show∀K:zv,(∀A',(∃T':List Nat,(A'[lp]?=some (rc .ready none)/\(∀j∈T',H14.size<=j)/\ ∃T3:List Nat,CmAt x.sp.mem A' b3 b4 mr n0 ((visL w (pre++[(a,v)])).foldl (addW x.sp.mem) L) T3/\ ∀j∈T3,j∈T\/j∈T')/\
        Fr (([lp,b4,mr]++T)++U) D A'/\ ∀j∈T',j∈U\/D.size<=j)->K (.bool true) A')->FC Tryz.prog vY #[.int .i64 a,.int .u64 v] D K from λK hKK=>hY a v D K ql (qj (K:=K) hpD ok b0D b5D C1 (mn x.sp.mem (visL w pre) L hk) hw hvw iD ql ⟨lpb,λq=>(hT1n lp q).1 rfl,by omega,by omega,by omega,by omega,by omega,by omega⟩ (by omega) (λH16 Hx L2 T2 g5 gz gq hL2 C2 f2 hT2=>?_))) _ (λA' h=> .inl ⟨rfl,h⟩)
    have hL3:L2=(visL w (pre++[(a,v)])).foldl (addW x.sp.mem) L:=by
      rw[hL2]
      split
      · rename_i hg;rw[pF _ _ hg,List.foldl_append];rfl
      · rename_i hg;rw[qh _ _ hg]
    obtain⟨d1,d2⟩:=qi (z:=H14.size) (by omega) g5 (by omega) ⟨aO ql,λq=>(hT1n lp q).1 rfl,by omega,by omega,by omega⟩ gq hT1 hU C2 f2 hT2
    rw[hL3]at d2
    exact⟨d1,hKK _ d2⟩
  · obtain⟨ql,hU,T1,C1,hT1⟩:=hJ
    refine hK rc lp H2 D T1 C1 (by omega) hlp (f0.get dS gdef) ql (λh=>?_) (λh=>?_) (e.fr.trans' f0 (λi hi _=>hi) (λi hi hl=>?_)) (λj hj=>?_)
    · rcases hT1 _ h with q | q
      · have:=hTn _ q;omega
      · have:=hU _ q;omega
    · rcases hT1 _ h with q | q
      · have:=hTn _ q;omega
      · have:=hU _ q;omega
    · rcases List.mem_append.1 hi with h | h
      · simp at h
        rcases h with h | h | h
        · omega
        · simp[h]
        · simp[h]
      · exact List.mem_append_right _ h
    · rcases hT1 _ hj with q | q
      · exact .inl q
      · have:=hU _ q;right;omega
end
