/-
  A memory of segments, said of abstract segments: how it stands on the heap, and the contracts of package seg. Proves nothing of any one statement.
-/
import Derived.Test.YtihdffpekpnglaaGreatFseg
import Derived.Test.YtihdffpekpnglaaGreatWord
import Derived.Test.YtihdffpekpnglaaGreatLx
import Derived.Test.YtihdffpekpnglaaGreatFobj
set_option linter.unusedVariables false
set_option linter.unusedSimpArgs false
namespace Go.Proofs.YtihdffpekpnglaaGreat
open Go

abbrev I64(x:Int):Prop:= -9223372036854775808<=x/\x<=9223372036854775807

structure Seg where
  gen:Int
  kind:Int
  n:Int
  cards:Nat->Int
  taken:Int
  words:Nat->Int
def Seg.cell(s:Seg):Nat->Value
  | 0=> .int .i64 s.gen
  | 1=> .int .i64 s.kind
  | 2=> .int .i64 s.n
  | 3=> .int .i64 (s.cards 0)
  | 4=> .int .i64 (s.cards 1)
  | 5=> .int .i64 (s.cards 2)
  | 6=> .int .i64 (s.cards 3)
  | 7=> .int .i64 s.taken
  | j+8=> .int .u64 (s.words j)
def Seg.none:Seg:=⟨0,0,0,λ_=>0,0,λ_=>0⟩
def Seg.new(gen kind taken:Int):Seg:=⟨gen,kind,0,λ_=>5,taken,λ_=>0⟩
structure rL (s:Seg):Prop where
  gen:0<=s.gen/\s.gen<=4
  kind:0<=s.kind/\s.kind<=3
  n:0<=s.n/\s.n<=64
  cards: ∀c,0<=s.cards c/\s.cards c<=5
  taken:0<=s.taken
  words: ∀j,aM (s.words j)

structure Mem where
  limit:Nat
  seg:Nat->Seg
  count:Int
  free:Int
def Mem.upd(m:Mem)(k:Nat)(s:Seg):Mem:={m with seg:=λi=>if i=k then s else m.seg i}
@[simp] theorem Mem.upd_limit (m:Mem) (k:Nat) (s:Seg):(m.upd k s).limit=m.limit:=rfl
@[simp] theorem Mem.upd_count (m:Mem) (k:Nat) (s:Seg):(m.upd k s).count=m.count:=rfl
@[simp] theorem Mem.upd_free (m:Mem) (k:Nat) (s:Seg):(m.upd k s).free=m.free:=rfl
theorem Mem.upd_same(m:Mem)(k:Nat)(s:Seg):(m.upd k s).seg k=s:=by simp[Mem.upd]
theorem Mem.upd_other(m:Mem){i k:Nat}(s:Seg)(h:i≠k):(m.upd k s).seg i=m.seg i:=by simp[Mem.upd,h]
theorem Mem.upd_seg(m:Mem)(i k:Nat)(s:Seg):(m.upd k s).seg i=if i=k then s else m.seg i:=rfl

def Mem.nfree(m:Mem):Nat:=(List.range m.limit).countP (λk=>(m.seg k).taken==0)
structure cF (m:Mem):Prop where
  lim:8<=m.limit/\m.limit<=1024
  seg: ∀k,rL (m.seg k)
  free:m.free=m.nfree
  count:0<=m.count

theorem mO: ∀(n k:Nat) (p q:Nat->Bool),k<n->(∀i,i≠k->p i=q i)->p k=true->q k=false->(List.range n).countP p=(List.range n).countP q+1
  | 0,k,p,q,hk,_,_,_=>by omega
  | n+1,k,p,q,hk,hpq,h1,h2=>by
    rw[List.range_succ,List.countP_append,List.countP_append]
    by_cases hkn:k=n
    · subst hkn
      have e:(List.range k).countP p=(List.range k).countP q:=by
        refine List.countP_congr λi hi=>?_
        have:i<k:=List.mem_range.1 hi
        rw[hpq i (by omega)]
      rw[e]
      simp[h1,h2]
    · rw[mO n k p q (by omega) hpq h1 h2]
      simp[List.countP_cons,hpq n (λh=>hkn h.symm)]
      omega

theorem Mem.nfree_pos{m:Mem}(h:m.nfree≠0): ∃k,k<m.limit/\(m.seg k).taken=0:=by
  have:0< (List.range m.limit).countP (λk=>(m.seg k).taken==0):=Nat.pos_of_ne_zero h
  obtain⟨k,hk,hp⟩:=List.countP_pos_iff.1 this
  exact⟨k,List.mem_range.1 hk,by simpa using hp⟩
theorem Mem.nfree_same{m:Mem}{k:Nat}{s:Seg}(h:s.taken=(m.seg k).taken):(m.upd k s).nfree=m.nfree:=by
  unfold Mem.nfree
  refine List.countP_congr λi _=>?_
  rw[Mem.upd_seg]
  by_cases hi:i=k
  · rw[if_pos hi,h,hi]
  · rw[if_neg hi]
theorem Mem.nfree_take{m:Mem}{k:Nat}{s:Seg}(hk:k<m.limit)(h0:(m.seg k).taken=0)(h1:s.taken≠0):m.nfree=(m.upd k s).nfree+1:=by
  refine mO _ k _ _ hk (λi hi=>by rw[Mem.upd_other _ _ hi]) (by simp[h0]) ?_
  show(((m.upd k s).seg k).taken==0)=false
  rw[Mem.upd_same];simpa using h1
theorem cF.upd{m:Mem}(h:cF m){k:Nat}{s:Seg}(hs:rL s)(ht:s.taken=(m.seg k).taken):cF (m.upd k s):=
  ⟨h.lim, fun i => by rw [Mem.upd_seg]; by_cases hi : i = k; · rw [if_pos hi]; exact hs
                      · rw[if_neg hi];exact h.seg i,by rw[Mem.nfree_same ht];exact h.free,h.count⟩

structure eP (H:zW) (bm bs:Nat) (m:Mem):Prop where
  mem: ∃cap:Nat,H[bm]?=some (.cells #[.slice (some ⟨bs,0,none⟩) m.limit cap,.int .i64 m.count,.int .i64 m.free] 123 (0,0))
  ne:bm≠bs
  segs: ∃cs:Array Value,H[bs]?=some (.cells cs 127 (0,0))/\m.limit*72<=cs.size/\ ∀k,k<m.limit-> ∀j,j<72->cs[k*72+j]?=some ((m.seg k).cell j)
theorem eP.keep{S:List Nat}{H H':zW}{bm bs:Nat}{m:Mem}(h:eP H bm bs m)(f:Fr S H H')(h1:bm ∉ S)(h2:bs ∉ S):eP H' bm bs m:=by
  obtain⟨cs,hb,hr⟩:=h.segs
  exact⟨⟨h.mem.choose,f.get h1 h.mem.choose_spec⟩,h.ne,cs,f.get h2 hb,hr⟩
theorem eP.ext{H H':zW}{bm bs:Nat}{m:Mem}(h:eP H bm bs m)(f:Ext H H'):eP H' bm bs m:=h.keep (S:=[]) f.fr (by simp) (by simp)
theorem eP.lt{H:zW}{bm bs:Nat}{m:Mem}(h:eP H bm bs m):bm<H.size/\bs<H.size:=by
  obtain⟨cs,hb,_⟩:=h.segs
  exact⟨bI h.mem.choose_spec,bI hb⟩
theorem eP.at{H:zW}{bm bs:Nat}{m:Mem}(h:eP H bm bs m){k j:Nat}(hk:k<m.limit)(hj:j<72):hat H ⟨bs,k*72+j,none⟩=some ((m.seg k).cell j):=by
  obtain⟨cs,hb,_,hr⟩:=h.segs
  rw[aU hb,hr k hk j hj]
theorem eP.segsAt{H:zW}{bm bs:Nat}{m:Mem}(h:eP H bm bs m): ∃cap:Nat,hat H ⟨bm,0,none⟩=some (.slice (some ⟨bs,0,none⟩) m.limit cap):=⟨h.mem.choose,by rw[aU h.mem.choose_spec];rfl⟩
theorem eP.countAt{H:zW}{bm bs:Nat}{m:Mem}(h:eP H bm bs m):hat H ⟨bm,1,none⟩=some (.int .i64 m.count):=by rw[aU h.mem.choose_spec];rfl
theorem eP.freeAt{H:zW}{bm bs:Nat}{m:Mem}(h:eP H bm bs m):hat H ⟨bm,2,none⟩=some (.int .i64 m.free):=by rw[aU h.mem.choose_spec];rfl
theorem eP.canPuts{H:zW}{bm bs:Nat}{m:Mem}(h:eP H bm bs m){k o n:Nat}(hk:k<m.limit)(hn:o+n<=72):aJ H ⟨bs,k*72+o,none⟩ 0 n:=by
  obtain⟨cs,hb,hs,_⟩:=h.segs
  refine eJ hb _ _ _ ?_
  have:(k+1)*72<=m.limit*72:=Nat.mul_le_mul_right _ hk
  omega
theorem eP.puts{H:zW}{bm bs:Nat}{m:Mem}(h:eP H bm bs m){k o:Nat}{vs:List Value}{s:Seg}(hk:k<m.limit)(hn:o+vs.length<=72)
    (h1: ∀j,j<vs.length->vs[j]?=some (s.cell (o+j))) (h2: ∀j,j<72->(j<o\/o+vs.length<=j)->s.cell j=(m.seg k).cell j):
    eP (aP H ⟨bs,k*72+o,none⟩ vs 0) bm bs (m.upd k s)/\Fr [bs] H (aP H ⟨bs,k*72+o,none⟩ vs 0):=by
  obtain⟨cs,hb,hs,hr⟩:=h.segs
  have hk1:(k+1)*72<=m.limit*72:=Nat.mul_le_mul_right _ hk
  rw[gj vs H cs (k*72+o) 0 hb,Nat.add_zero]
  refine⟨⟨⟨h.mem.choose,by rw[iD (λe=>h.ne e.symm)];exact h.mem.choose_spec⟩,h.ne,_,dU (bI hb),by rw[splice_size];exact hs,λi hi j hj=>?_⟩,Fr.set⟩
  rw[Mem.upd_seg]
  have hi:i<m.limit:=hi
  by_cases hik:i=k
  · subst hik
    rw[if_pos rfl]
    by_cases hj1:j<o
    · rw[eD _ _ _ _ (by omega),hr i hi j hj,h2 j hj (.inl hj1)]
    by_cases hj2:o+vs.length<=j
    · rw[hU _ _ _ _ (by omega),hr i hi j hj,h2 j hj (.inr hj2)]
    · rw[show i*72+j=i*72+o+(j-o)by omega,fT _ _ _ _ (by omega) (by omega),h1 (j-o) (by omega),show o+(j-o)=j by omega]
  · rw[if_neg hik,<-hr i hi j hj]
    rcases Nat.lt_or_gt_of_ne hik with hlt | hgt
    · have:(i+1)*72<=k*72:=Nat.mul_le_mul_right _ hlt
      exact eD _ _ _ _ (by omega)
    · have:(k+1)*72<=i*72:=Nat.mul_le_mul_right _ hgt
      exact hU _ _ _ _ (by omega)
theorem eP.put{H:zW}{bm bs:Nat}{m:Mem}(h:eP H bm bs m){k o:Nat}{v:Value}{s:Seg}(hk:k<m.limit)(hn:o<72)
    (h1:s.cell o=v) (h2: ∀j,j<72->j≠o->s.cell j=(m.seg k).cell j):
    eP (aP H ⟨bs,k*72+o,none⟩ [v] 0) bm bs (m.upd k s)/\Fr [bs] H (aP H ⟨bs,k*72+o,none⟩ [v] 0):=by
  refine h.puts hk (by simp;omega) (λj hj=>?_) (λj hj ho=>h2 j hj (by simp at ho;omega))
  simp only[List.length_singleton]at hj
  obtain rfl:j=0:=by omega
  rw[Nat.add_zero,h1];rfl

def Mem.has(m:Mem)(k:Int):Prop:=0<=k/\k<m.limit/\(m.seg k.toNat).taken≠0
instance (m:Mem) (k:Int):Decidable (m.has k):=by unfold Mem.has;infer_instance

theorem lp{H:zW}{bm bs:Nat}{m:Mem}{k:Int}(h:eP H bm bs m):
    gL.C (some ⟨bm,0,none⟩) k H (λv H'=>v=.pointer (if m.has k then some ⟨bs,k.toNat*72,none⟩else none)/\H'=H):=by
  refine HC.via λR hR=>gL.link ?_
  unfold gL.pt
  rw[onPtr_some]
  by_cases h0:k<0
  · rw[if_pos h0];exact hR _ _ ⟨by rw[if_neg (λhh=>by have:=hh.1;omega)],rfl⟩
  rw[if_neg h0]
  refine⟨_,_,_,h.segsAt.choose_spec,?_⟩
  by_cases h1:k>=(m.limit:Int)
  · rw[if_pos h1];exact hR _ _ ⟨by rw[if_neg (λhh=>by have:=hh.2.1;omega)],rfl⟩
  rw[if_neg h1]
  have hk:k.toNat<m.limit:=by omega
  refine⟨_,_,_,h.segsAt.choose_spec,_,rfl,⟨by omega,by omega⟩,(m.seg k.toNat).taken,?_,?_⟩
  · simp only[addr_add_mk,Nat.zero_add];exact h.at hk (by omega)
  by_cases ht:(m.seg k.toNat).taken=0
  · rw[if_pos ht];exact hR _ _ ⟨by rw[if_neg (λhh=>hh.2.2 ht)],rfl⟩
  · rw[if_neg ht]
    refine⟨_,_,_,h.segsAt.choose_spec,_,rfl,⟨by omega,by omega⟩,hR _ _ ⟨?_,rfl⟩⟩
    rw[if_pos ⟨by omega,by omega,ht⟩,addr_add_mk,Nat.zero_add]

def Seg.head(s:Seg):Value:=.agg #[.int .i64 s.gen,.int .i64 s.kind,.int .i64 s.n,.int .i64 (s.cards 0),.int .i64 (s.cards 1),.int .i64 (s.cards 2),.int .i64 (s.cards 3)]
theorem jE{H:zW}{bm bs:Nat}{m:Mem}{k:Int}(h:eP H bm bs m):
    fF.C (some ⟨bm,0,none⟩) k H (λv H'=>v=.tuple #[(if m.has k then m.seg k.toNat else Seg.none).head,.bool (decide (m.has k))]/\Ext H H'):=by
  refine HC.via λR hR=>fF.link ?_
  unfold fF.pt
  intro b H1 hb hH1
  have e1:Ext H H1:=Ext.push' hH1
  have g1:=aO hb hH1
  refine HC.mono (lp (h.ext e1)) ?_
  rintro _ H2 ⟨rfl,rfl⟩
  refine⟨_,rfl,?_⟩
  by_cases hk:m.has k
  · rw[if_pos hk,onPtr_some]
    have hkl:k.toNat<m.limit:=by have:=hk.1;have:=hk.2.1;omega
    have hrow:aG H2 ⟨bs,k.toNat*72,none⟩ 0 [.int .i64 (m.seg k.toNat).gen,.int .i64 (m.seg k.toNat).kind,.int .i64 (m.seg k.toNat).n,.int .i64 ((m.seg k.toNat).cards 0),.int .i64 ((m.seg k.toNat).cards 1),.int .i64 ((m.seg k.toNat).cards 2),.int .i64 ((m.seg k.toNat).cards 3)]:=by
      have a:=λj (hj:j<72)=>(h.ext e1).at (j:=j) hkl hj
      simp only[aG,addr_add_mk]
      exact⟨a 0 (by omega),a 1 (by omega),a 2 (by omega),a 3 (by omega),a 4 (by omega),a 5 (by omega),a 6 (by omega),trivial⟩
    refine⟨_,_,_,_,_,_,_,hrow,?_⟩
    obtain⟨hc,hs⟩:=boxed (vs:=[.int .i64 (m.seg k.toNat).gen,.int .i64 (m.seg k.toNat).kind,.int .i64 (m.seg k.toNat).n,.int .i64 ((m.seg k.toNat).cards 0),.int .i64 ((m.seg k.toNat).cards 1),.int .i64 ((m.seg k.toNat).cards 2),.int .i64 ((m.seg k.toNat).cards 3)]) (H1:=H2) g1 rfl rfl
    refine⟨hc,λH3 hH3=>?_⟩
    obtain⟨hr,hE⟩:=hs H3 hH3
    refine⟨_,_,_,_,_,_,_,hr,hR _ _ ⟨?_,hE H e1 (by omega)⟩⟩
    rw[if_pos hk,zQ hk];rfl
  · rw[if_neg hk,onPtr_none]
    obtain⟨hc,hs⟩:=boxed (vs:=[.int .i64 0,.int .i64 0,.int .i64 0,.int .i64 0,.int .i64 0,.int .i64 0,.int .i64 0]) (H1:=H2) g1 rfl rfl
    refine⟨hc,λH3 hH3=>?_⟩
    obtain⟨hr,hE⟩:=hs H3 hH3
    refine⟨_,_,_,_,_,_,_,hr,hR _ _ ⟨?_,hE H e1 (by omega)⟩⟩
    rw[if_neg hk,zJ hk];rfl

def Mem.used(m:Mem)(a:Int):Prop:=0<=a/\m.has (a / 64)/\a % 64< (m.seg (a / 64).toNat).n
instance (m:Mem) (a:Int):Decidable (m.used a):=by unfold Mem.used;infer_instance
def Mem.get(m:Mem)(a:Int):Int:=(m.seg (a / 64).toNat).words (a % 64).toNat
def Seg.set(s:Seg)(i:Nat)(w:Int):Seg:={s with words:=λj=>if j=i then w else s.words j}
def Mem.set(m:Mem)(a w:Int):Mem:=m.upd (a / 64).toNat ((m.seg (a / 64).toNat).set (a % 64).toNat w)

theorem mP{H:zW}{bm bs:Nat}{m:Mem}{a:Int}(h:eP H bm bs m)(ok:cF m)(ha:a<=9223372036854775807):
    gz.C (some ⟨bm,0,none⟩) a H (λv H'=>v=.pointer (if m.used a then some ⟨bs,(a / 64).toNat*72+(8+(a % 64).toNat),none⟩else none)/\H'=H):=by
  refine HC.via λR hR=>gz.link ?_
  unfold gz.pt zq
  by_cases h0:a<0
  · rw[if_pos h0];exact hR _ _ ⟨by rw[if_neg (λhh=>by have:=hh.1;omega)],rfl⟩
  rw[if_neg h0,ic (by omega),w64 (n:=a / 64) (by omega),gP (by omega)]
  refine HC.mono (lp h) ?_
  rintro _ H1 ⟨rfl,rfl⟩
  refine⟨_,rfl,?_⟩
  by_cases hk:m.has (a / 64)
  · rw[if_pos hk,onPtr_some]
    have hkl:(a / 64).toNat<m.limit:=by have:=hk.1;have:=hk.2.1;omega
    refine⟨(m.seg (a / 64).toNat).n,by rw[addr_add_mk];exact h.at hkl (by omega),?_⟩
    by_cases hn:a % 64>=(m.seg (a / 64).toNat).n
    · rw[if_pos hn];exact hR _ _ ⟨by rw[if_neg (λhh=>by have:=hh.2.2;omega)],rfl⟩
    · rw[if_neg hn]
      refine⟨⟨by omega,by omega⟩,hR _ _ ⟨?_,rfl⟩⟩
      rw[if_pos ⟨by omega,hk,by omega⟩]
      simp only[addr_add_mk,Nat.mul_one]
      rw[Nat.add_assoc]
  · rw[if_neg hk,onPtr_none];exact hR _ _ ⟨by rw[if_neg (λhh=>hk hh.2.1)],rfl⟩

theorem kd{H:zW}{bm bs:Nat}{m:Mem}{a:Int}(h:eP H bm bs m)(ok:cF m)(ha:a<=9223372036854775807):
    fQ.C (some ⟨bm,0,none⟩) a H (λv H'=>v=(if m.used a then .tuple #[.int .u64 (m.get a),.int .i64 0]else .tuple #[.int .u64 0,.int .i64 18])/\H'=H):=by
  refine HC.via λR hR=>fQ.link ?_
  unfold fQ.pt
  refine HC.mono (mP h ok ha) ?_
  rintro _ H1 ⟨rfl,rfl⟩
  refine⟨_,rfl,?_⟩
  by_cases hu:m.used a
  · rw[if_pos hu,onPtr_some]
    have hkl:(a / 64).toNat<m.limit:=by have:=hu.2.1.1;have:=hu.2.1.2.1;omega
    refine⟨m.get a,?_,hR _ _ ⟨by rw[if_pos hu],rfl⟩⟩
    rw[h.at hkl (by omega),show 8+(a % 64).toNat=(a % 64).toNat+8 by omega];rfl
  · rw[if_neg hu,onPtr_none];exact hR _ _ ⟨by rw[if_neg hu],rfl⟩

theorem Seg.set_cell(s:Seg)(i:Nat)(w:Int):(s.set i w).cell (8+i)=.int .u64 w:=by
  rw[show 8+i=i+8 by omega];simp[Seg.cell,Seg.set]
theorem Seg.set_cell_other(s:Seg)(i:Nat)(w:Int): ∀j,j≠8+i->(s.set i w).cell j=s.cell j
  | 0,_ | 1,_ | 2,_ | 3,_ | 4,_ | 5,_ | 6,_ | 7,_=>rfl
  | j+8,h=>by simp[Seg.cell,Seg.set];intro e;omega
theorem lY{H:zW}{bm bs:Nat}{m:Mem}{a w:Int}(h:eP H bm bs m)(ok:cF m)(ha:a<=9223372036854775807):
    fY.C (some ⟨bm,0,none⟩) a w H (λv H'=>v=.int .i64 (if m.used a then 0 else 18)/\eP H' bm bs (if m.used a then m.set a w else m)/\Fr [bs] H H'):=by
  refine HC.via λR hR=>fY.link ?_
  unfold fY.pt
  refine HC.mono (mP h ok ha) ?_
  rintro _ H1 ⟨rfl,rfl⟩
  refine⟨_,rfl,?_⟩
  by_cases hu:m.used a
  · rw[if_pos hu,onPtr_some]
    have hkl:(a / 64).toNat<m.limit:=by have:=hu.2.1.1;have:=hu.2.1.2.1;omega
    refine⟨h.canPuts hkl (by omega),λH2 hH2=>?_⟩
    subst hH2
    obtain⟨h1,h2⟩:=h.put (v:=.int .u64 w) (s:=(m.seg (a / 64).toNat).set (a % 64).toNat w) hkl (o:=8+(a % 64).toNat) (by omega) (Seg.set_cell _ _ _) (λj _ hj=>Seg.set_cell_other _ _ _ j hj)
    exact hR _ _ ⟨by rw[if_pos hu],by rw[if_pos hu];exact h1,h2⟩
  · rw[if_neg hu,onPtr_none];exact hR _ _ ⟨by rw[if_neg hu],by rw[if_neg hu];exact h,Fr.refl _ _⟩

def Seg.bump(s:Seg)(d:Int):Seg:={s with n:=s.n+d}
def Mem.bump(m:Mem)(k d:Int):Mem×Int×Int:=
  if ¬m.has k then(m,0,19)
  else if d<1 then(m,0,1)
  else if 64-(m.seg k.toNat).n<d then(m,0,2)
  else(m.upd k.toNat ((m.seg k.toNat).bump d),k*64+(m.seg k.toNat).n,0)
theorem mQ{H:zW}{bm bs:Nat}{m:Mem}{k d:Int}(h:eP H bm bs m)(ok:cF m):
    gD.C (some ⟨bm,0,none⟩) k d H (λv H'=>v=.tuple #[.int .i64 (m.bump k d).2.1,.int .i64 (m.bump k d).2.2]/\eP H' bm bs (m.bump k d).1/\Fr [bs] H H'):=by
  refine HC.via λR hR=>gD.link ?_
  unfold gD.pt zq
  refine HC.mono (lp h) ?_
  rintro _ H1 ⟨rfl,rfl⟩
  refine⟨_,rfl,?_⟩
  by_cases hk:m.has k
  · rw[if_pos hk,onPtr_some]
    have hkl:k.toNat<m.limit:=by have:=hk.1;have:=hk.2.1;omega
    have hlim:=ok.lim
    have hsn:=(ok.seg k.toNat).n
    have k0:=hk.1
    by_cases hd:d<1
    · rw[if_pos hd]
      have e:m.bump k d=(m,0,1):=by unfold Mem.bump;rw[if_neg (λhh=>hh hk),if_pos hd]
      rw[e]at hR
      exact hR _ _ ⟨rfl,h,Fr.refl _ _⟩
    rw[if_neg hd]
    have hn:hat H1 (Addr.add ⟨bs,k.toNat*72,none⟩ 2)=some (.int .i64 (m.seg k.toNat).n):=by rw[addr_add_mk];exact h.at hkl (by omega)
    refine⟨_,hn,?_⟩
    rw[w64 (n:=64-(m.seg k.toNat).n) (by omega)]
    by_cases hf:d>64-(m.seg k.toNat).n
    · rw[if_pos hf]
      have e:m.bump k d=(m,0,2):=by unfold Mem.bump;rw[if_neg (λhh=>hh hk),if_neg hd,if_pos (by omega)]
      rw[e]at hR
      exact hR _ _ ⟨rfl,h,Fr.refl _ _⟩
    rw[if_neg hf]
    have e:m.bump k d=(m.upd k.toNat ((m.seg k.toNat).bump d),k*64+(m.seg k.toNat).n,0):=by unfold Mem.bump;rw[if_neg (λhh=>hh hk),if_neg hd,if_neg (by omega)]
    rw[e]at hR
    refine⟨_,hn,by rw[addr_add_mk];exact h.canPuts hkl (by omega),λH2 hH2=>?_⟩
    rw[addr_add_mk,w64 (n:=(m.seg k.toNat).n+d) (by omega)]at hH2
    subst hH2
    obtain⟨h1,h2⟩:=h.put (v:=.int .i64 ((m.seg k.toNat).n+d)) (s:=(m.seg k.toNat).bump d) hkl (o:=2) (by omega) rfl (λj _ hj=>by
      match j,hj with
      | 0,_ | 1,_ | 3,_ | 4,_ | 5,_ | 6,_ | 7,_=>rfl
      | 2,h=>exact absurd rfl h
      | j+8,_=>rfl)
    refine⟨(m.seg k.toNat).n+d,?_,hR _ _ ⟨?_,h1,h2⟩⟩
    · rw[addr_add_mk,h1.at hkl (by omega),Mem.upd_same];rfl
    · have hl2:k<1024:=by have:=hk.2.1;omega
      rw[w64 (n:=k*64) (by omega),w64 (n:=k*64+((m.seg k.toNat).n+d)) (by omega),w64 (by omega)]
      rw[show k*64+((m.seg k.toNat).n+d)-d=k*64+(m.seg k.toNat).n by omega]
  · rw[if_neg hk,onPtr_none]
    have e:m.bump k d=(m,0,19):=by unfold Mem.bump;rw[if_pos hk]
    rw[e]at hR
    exact hR _ _ ⟨rfl,h,Fr.refl _ _⟩

def Seg.mark(s:Seg)(c:Nat)(v:Int):Seg:={s with cards:=λi=>if i=c then v else s.cards i}
def Mem.mark(m:Mem)(k c v:Int):Mem×Int:=
  if ¬m.has k then(m,19)
  else if c<0\/4<=c\/v<0\/5<v then(m,1)
  else(m.upd k.toNat ((m.seg k.toNat).mark c.toNat v),0)
theorem pY{H:zW}{bm bs:Nat}{m:Mem}{k c x:Int}(h:eP H bm bs m):
    gW.C (some ⟨bm,0,none⟩) k c x H (λv H'=>v=.int .i64 (m.mark k c x).2/\eP H' bm bs (m.mark k c x).1/\Fr [bs] H H'):=by
  refine HC.via λR hR=>gW.link ?_
  unfold gW.pt
  refine HC.mono (lp h) ?_
  rintro _ H1 ⟨rfl,rfl⟩
  refine⟨_,rfl,?_⟩
  by_cases hk:m.has k
  · rw[if_pos hk,onPtr_some]
    have hkl:k.toNat<m.limit:=by have:=hk.1;have:=hk.2.1;omega
    by_cases hc:c<0\/4<=c\/x<0\/5<x
    · rw[if_pos (by simp;omega)]
      have e:m.mark k c x=(m,1):=by unfold Mem.mark;rw[if_neg (λhh=>hh hk),if_pos hc]
      rw[e]at hR
      exact hR _ _ ⟨rfl,h,Fr.refl _ _⟩
    · rw[if_neg (by simp;omega)]
      have e:m.mark k c x=(m.upd k.toNat ((m.seg k.toNat).mark c.toNat x),0):=by unfold Mem.mark;rw[if_neg (λhh=>hh hk),if_neg hc]
      rw[e]at hR
      simp only[addr_add_mk,Nat.mul_one]
      refine⟨⟨by omega,by omega⟩,by rw[Nat.add_assoc];exact h.canPuts hkl (by omega),λH2 hH2=>?_⟩
      rw[Nat.add_assoc]at hH2
      subst hH2
      obtain⟨h1,h2⟩:=h.put (v:=.int .i64 x) (s:=(m.seg k.toNat).mark c.toNat x) hkl (o:=3+c.toNat) (by omega) (by
          have:c.toNat=0\/c.toNat=1\/c.toNat=2\/c.toNat=3:=by omega
          rcases this with e | e | e | e<;>rw[e]<;>rfl) (λj _ hj=>by
        match j,hj with
        | 0,_ | 1,_ | 2,_ | 7,_=>rfl
        | 3,h | 4,h | 5,h | 6,h=>simp only[Seg.cell,Seg.mark];rw[if_neg (by omega)]
        | j+8,_=>rfl)
      exact hR _ _ ⟨rfl,h1,h2⟩
  · rw[if_neg hk,onPtr_none]
    have e:m.mark k c x=(m,19):=by unfold Mem.mark;rw[if_pos hk]
    rw[e]at hR
    exact hR _ _ ⟨rfl,h,Fr.refl _ _⟩

def Mem.first(m:Mem):Nat:=((List.range m.limit).find? (λk=>(m.seg k).taken==0)).getD 0
theorem Mem.first_eq{m:Mem}{k:Nat}(hk:k<m.limit)(h0:(m.seg k).taken=0)(hb: ∀j,j<k->(m.seg j).taken≠0):m.first=k:=by
  unfold Mem.first
  have:(List.range m.limit).find? (λk=>(m.seg k).taken==0)=some k:=by
    rw[List.find?_range_eq_some]
    refine⟨by simp[h0],by simp[hk],λj hj=>by simpa using hb j hj⟩
  rw[this];rfl
def Mem.take(m:Mem)(gen kind:Int):Mem×Int×Int:=
  if gen<0\/4<gen\/kind<0\/3<kind then(m,0,1)
  else if m.free=0 then(m,0,2)
  else({m with count:=m.count+1,free:=m.free-1}.upd m.first (Seg.new gen kind (m.count+1)),m.first,0)

theorem rO(gen kind t:Int): ∃vs:List Value,vs=([.int .i64 gen,.int .i64 kind,.int .i64 0,.int .i64 5,.int .i64 5,.int .i64 5,.int .i64 5,.int .i64 t]++List.replicate 64 (.int .u64 0):List Value)/\vs.length=72/\ ∀j,j<72->vs[j]?=some ((Seg.new gen kind t).cell j):=by
  refine⟨_,rfl,by simp,λj hj=>?_⟩
  match j,hj with
  | 0,_ | 1,_ | 2,_ | 3,_ | 4,_ | 5,_ | 6,_ | 7,_=>rfl
  | j+8,hj=>
    rw[List.getElem?_append_right (by simp)]
    simp only[List.length_cons,List.length_nil]
    rw[List.getElem?_replicate,if_pos (by omega)];rfl
theorem qQ: ∃z:Array Value,z=(List.replicate 8 (.int .i64 0)++List.replicate 64 (.int .u64 0):List Value).toArray/\z.size=72/\ ∀j,j<72->z[j]?=some (Seg.none.cell j):=by
  refine⟨_,rfl,by simp,λj hj=>?_⟩
  rw[List.getElem?_toArray]
  match j,hj with
  | 0,_ | 1,_ | 2,_ | 3,_ | 4,_ | 5,_ | 6,_ | 7,_=>rfl
  | j+8,hj=>
    rw[List.getElem?_append_right (by simp)]
    simp only[List.length_replicate]
    rw[List.getElem?_replicate,if_pos (by omega)];rfl

theorem pZ{H:zW}{bm bs:Nat}{m:Mem}{gen kind:Int}(h:eP H bm bs m)(ok:cF m)(hc:m.count<4611686018427387904):
    gV.C (some ⟨bm,0,none⟩) gen kind H (λv H'=>v=.tuple #[.int .i64 (m.take gen kind).2.1,.int .i64 (m.take gen kind).2.2]/\eP H' bm bs (m.take gen kind).1/\Fr [bm,bs] H H'):=by
  refine HC.via λR hR=>gV.link ?_
  unfold gV.pt zq
  rw[onPtr_some]
  have hlim:=ok.lim
  have bad:(gen<0\/4<gen\/kind<0\/3<kind)->R (.tuple #[.int .i64 0,.int .i64 1]) H:=λhb=>by
    have e:m.take gen kind=(m,0,1):=by unfold Mem.take;rw[if_pos hb]
    rw[e]at hR
    exact hR _ _ ⟨rfl,h,Fr.refl _ _⟩
  by_cases h1:gen<0
  · rw[if_pos h1];exact bad (.inl h1)
  rw[if_neg h1]
  by_cases h2:gen>4
  · rw[if_pos h2];exact bad (.inr (.inl h2))
  rw[if_neg h2]
  by_cases h3:kind<0
  · rw[if_pos h3];exact bad (.inr (.inr (.inl h3)))
  rw[if_neg h3]
  by_cases h4:kind>3
  · rw[if_pos h4];exact bad (.inr (.inr (.inr h4)))
  rw[if_neg h4]
  refine⟨_,_,_,h.segsAt.choose_spec,?_⟩
  rw[if_neg (by omega)]
  refine⟨m.free,by rw[addr_add_mk];exact h.freeAt,?_⟩
  by_cases h5:m.free=0
  · rw[if_pos h5]
    have e:m.take gen kind=(m,0,2):=by unfold Mem.take;rw[if_neg (by omega),if_pos h5]
    rw[e]at hR
    exact hR _ _ ⟨rfl,h,Fr.refl _ _⟩
  rw[if_neg h5]
  have hnf:m.nfree≠0:=λe=>h5 (by rw[ok.free,e];rfl)
  have hne:=Mem.nfree_pos hnf
  have hfree:m.free<=1024:=by
    rw[ok.free]
    have:m.nfree<=(List.range m.limit).length:=List.countP_le_length
    simp at this
    omega
  have hfree0:0<=m.free:=by rw[ok.free];omega
  refine⟨λk H'=>H'=H/\0<=k/\ ∀j:Nat,j<k.toNat->(m.seg j).taken≠0,λk _=>(1024-k).toNat,⟨rfl,by omega,λj hj=>by simp at hj⟩,?_⟩
  rintro k H1 ⟨rfl,k0,hj⟩
  obtain⟨kk,hkk,hk0⟩:=hne
  have hkl:k.toNat<m.limit:=by
    rcases Nat.lt_or_ge kk k.toNat with h | h
    · exact absurd hk0 (hj kk h)
    · omega
  refine⟨_,_,_,h.segsAt.choose_spec,_,rfl,⟨k0,by omega⟩,(m.seg k.toNat).taken,by simp only[addr_add_mk,Nat.zero_add];exact h.at hkl (by omega),?_⟩
  have ht:=(ok.seg k.toNat).taken
  by_cases htk:(m.seg k.toNat).taken>0
  · rw[if_pos htk,w64 (n:=k+1) (by omega)]
    refine⟨⟨rfl,by omega,λj hj'=>?_⟩,by show(1024-(k+1)).toNat< (1024-k).toNat;omega⟩
    by_cases e:j=k.toNat
    · subst e;omega
    · exact hj j (by omega)
  rw[if_neg htk]
  have htk0:(m.seg k.toNat).taken=0:=by omega
  have hfirst:m.first=k.toNat:=Mem.first_eq hkl htk0 hj
  have hcnt:=ok.count
  refine⟨m.count,by rw[addr_add_mk];exact h.countAt,by rw[addr_add_mk];exact eJ h.mem.choose_spec _ _ _ (by simp),λH2 hH2=>?_⟩
  rw[addr_add_mk,gj _ _ _ _ _ h.mem.choose_spec,w64 (n:=m.count+1) (by omega)]at hH2
  have g2:H2[bm]?=some (.cells #[.slice (some ⟨bs,0,none⟩) m.limit h.mem.choose,.int .i64 (m.count+1),.int .i64 m.free] 123 (0,0)):=by rw[hH2,dU h.lt.1];rfl
  refine⟨m.free,by rw[addr_add_mk,aU g2];rfl,by rw[addr_add_mk];exact eJ g2 _ _ _ (by simp),λH3 hH3=>?_⟩
  rw[addr_add_mk,gj _ _ _ _ _ g2,w64 (n:=m.free-1) (by omega),hH2,li]at hH3
  have g3:eP H3 bm bs {m with count:=m.count+1,free:=m.free-1}:=by
    subst hH3
    obtain⟨cs,hb,hr⟩:=h.segs
    exact⟨⟨h.mem.choose,by rw[dU h.lt.1];rfl⟩,h.ne,cs,by rw[iD h.ne];exact hb,hr⟩
  have f3:Fr [bm] H1 H3:=by subst hH3;exact Fr.set
  refine⟨_,_,_,g3.segsAt.choose_spec,m.count+1,by rw[addr_add_mk];exact g3.countAt,_,rfl,⟨k0,by show k< (m.limit:Int);omega⟩,?_⟩
  simp only[addr_add_mk,Nat.zero_add]
  have hcp:=g3.canPuts (k:=k.toNat) (o:=0) (n:=72) hkl (by omega)
  rw[Nat.add_zero]at hcp
  refine⟨hcp,λH4 hH4=>?_⟩
  obtain⟨vs,evs,hl,hg⟩:=rO gen kind (m.count+1)
  rw[<-evs]at hH4
  obtain⟨g4,f4⟩:=g3.puts (k:=k.toNat) (o:=0) (vs:=vs) (s:=Seg.new gen kind (m.count+1)) hkl (by omega) (λj hj=>by rw[Nat.zero_add];exact hg j (by omega)) (λj hj ho=>by omega)
  rw[Nat.add_zero]at g4 f4
  have e:m.take gen kind=({m with count:=m.count+1,free:=m.free-1}.upd k.toNat (Seg.new gen kind (m.count+1)),k,0):=by
    unfold Mem.take
    rw[if_neg (by omega),if_neg h5,hfirst,show((k.toNat:Nat):Int)=k by omega]
  rw[e]at hR
  subst hH4
  exact hR _ _ ⟨rfl,g4,(f3.trans' f4 (λi hi _=>by simp at hi;simp[hi]) (λi hi _=>by simp at hi;simp[hi]))⟩

def Mem.fresh(limit:Nat):Mem:=⟨limit,λ_=>Seg.none,0,limit⟩
theorem p7:rL Seg.none:=⟨by decide,by decide,by decide,λ_=>(by decide:(0:Int)<=0/\(0:Int)<=5),by decide,λ_=>(by decide:aM 0)⟩
theorem oP{limit:Nat}(h:8<=limit/\limit<=1024):cF (Mem.fresh limit):=
  ⟨h,λ_=>p7,by
    show(limit:Int)=_
    unfold Mem.nfree
    have:(List.range limit).countP (λk=>((Mem.fresh limit).seg k).taken==0)=(List.range limit).length:=List.countP_eq_length.2 (λ_ _=>rfl)
    show(limit:Int)=(((List.range limit).countP (λk=>((Mem.fresh limit).seg k).taken==0):Nat):Int)
    rw[this];simp,Int.le_refl _⟩

theorem qR{H:zW}{limit:Int}(hl:I64 limit):
    jx.C limit H (λv H'=>(¬(8<=limit/\limit<=1024)/\v=.tuple #[.pointer none,.int .i64 1]/\H'=H)\/
      ((8<=limit/\limit<=1024)/\ ∃bm bs,v=.tuple #[.pointer (some ⟨bm,0,none⟩),.int .i64 0]/\eP H' bm bs (Mem.fresh limit.toNat)/\Ext H H'/\H.size<=bs/\bs<bm)):=by
  refine HC.via λR hR=>jx.link ?_
  unfold jx.pt
  by_cases h:8<=limit/\limit<=1024
  · rw[if_neg (by simp;omega)]
    obtain⟨z,ez,hz,hg⟩:=qQ
    rw[<-ez]
    refine⟨by omega,by omega,by omega,by omega,λb H1 hb hH1 b2 H2 hb2 hH2=>hR _ _ (.inr ⟨h,b2,b,rfl,?_,(Ext.push' hH1).trans (Ext.push' hH2),by omega,?_⟩)⟩
    · have g1:=aO hb hH1
      have g2:=aO hb2 hH2
      have hne:b2≠b:=by have:=bI g1;omega
      refine⟨⟨limit.toNat,?_⟩,hne,_,(Ext.push' hH2).get g1,?_,?_⟩
      · rw[g2]
        show _=some (Obj.cells #[.slice (some ⟨b,0,none⟩) limit.toNat limit.toNat,.int .i64 0,.int .i64 ((limit.toNat:Nat):Int)] _ _)
        rw[show((limit.toNat:Nat):Int)=limit by omega]
      · rw[jK,hz];exact Nat.le_refl _
      · intro k hk j hj
        have:=kN (z:=z) (n:=limit.toNat) (k:=k) (j:=j) hk (by omega)
        rw[hz]at this
        rw[this,hg j hj];rfl
    · have:=bI (aO hb hH1);omega
  · rw[if_pos (by simp;omega)]
    exact hR _ _ (.inl ⟨h,rfl,rfl⟩)

theorem cF.bump{m:Mem}(ok:cF m)(k d:Int):cF (m.bump k d).1:=by
 unfold Mem.bump
 by_cases hk:m.has k
 ·rw[if_neg (λh=>h hk)]
  by_cases hd:d<1
  ·rw[if_pos hd];exact ok
  rw[if_neg hd]
  by_cases hf:64-(m.seg k.toNat).n<d
  ·rw[if_pos hf];exact ok
  rw[if_neg hf]
  have s:=ok.seg k.toNat
  exact ok.upd ⟨s.gen,s.kind,by have:=s.n;show 0<=(m.seg k.toNat).n+d/\(m.seg k.toNat).n+d<=64;omega,s.cards,s.taken,s.words⟩ rfl
 ·rw[if_pos hk];exact ok
theorem Mem.bump_fail{m:Mem}{k d:Int}(h:(m.bump k d).2.2≠0):(m.bump k d).1=m:=by
 unfold Mem.bump at*
 split
 ·rfl
 ·rename_i h1
  rw[if_neg h1]at h
  split
  ·rfl
  ·rename_i h2
   rw[if_neg h2]at h
   split
   ·rfl
   ·rename_i h3
    rw[if_neg h3]at h
    exact absurd rfl h
theorem Mem.first_spec{m:Mem}(ok:cF m)(h:m.free≠0):m.first<m.limit/\(m.seg m.first).taken=0:=by
 have hnf:m.nfree≠0:=λe=>h (by rw[ok.free,e];rfl)
 obtain⟨k,hk,h0⟩:=Mem.nfree_pos hnf
 have hs:((List.range m.limit).find? (λk=>(m.seg k).taken==0)).isSome=true:=by
  rw[List.find?_isSome];exact⟨k,List.mem_range.2 hk,by simp[h0]⟩
 obtain⟨j,hj⟩:=Option.isSome_iff_exists.1 hs
 have hp:=List.find?_some hj
 have hm:=List.mem_of_find?_eq_some hj
 unfold Mem.first
 rw[hj]
 exact⟨List.mem_range.1 hm,by simpa using hp⟩
theorem cF.take{m:Mem}(ok:cF m)(gen kind:Int):cF (m.take gen kind).1:=by
 unfold Mem.take
 by_cases h1:gen<0\/4<gen\/kind<0\/3<kind
 ·rw[if_pos h1];exact ok
 rw[if_neg h1]
 by_cases h2:m.free=0
 ·rw[if_pos h2];exact ok
 rw[if_neg h2]
 obtain⟨hf,h0⟩:=Mem.first_spec ok h2
 have hc:=ok.count
 refine⟨ok.lim,λi=>?_,?_,by show 0<=m.count+1;omega⟩
 ·rw[Mem.upd_seg]
  by_cases hi:i=m.first
  ·rw[if_pos hi]
   exact⟨by show 0<=gen/\gen<=4;omega,by show 0<=kind/\kind<=3;omega,(by decide:(0:Int)<=0/\(0:Int)<=64),λ_=>(by decide:(0:Int)<=5/\(5:Int)<=5),by show 0<=m.count+1;omega,λ_=>(by decide:aM 0)⟩
  ·rw[if_neg hi];exact ok.seg i
 ·show m.free-1=_
  have e:=Mem.nfree_take (m:=m) (k:=m.first) (s:=Seg.new gen kind (m.count+1)) hf h0 (by show m.count+1≠0;omega)
  have e2:({m with count:=m.count+1,free:=m.free-1}.upd m.first (Seg.new gen kind (m.count+1))).nfree=(m.upd m.first (Seg.new gen kind (m.count+1))).nfree:=rfl
  rw[e2,ok.free,e];omega
theorem cF.set{m:Mem}(ok:cF m)(a:Int){w:Int}(hw:aM w):cF (m.set a w):=by
 have s:=ok.seg (a / 64).toNat
 refine ok.upd ⟨s.gen,s.kind,s.n,s.cards,s.taken,λj=>?_⟩ rfl
 simp only[Seg.set]
 by_cases h:j=(a % 64).toNat
 ·rw[if_pos h];exact hw
 ·rw[if_neg h];exact s.words j
theorem cF.mark{m:Mem}(ok:cF m)(k c v:Int):cF (m.mark k c v).1:=by
 unfold Mem.mark
 by_cases hk:m.has k
 ·rw[if_neg (λh=>h hk)]
  by_cases hc:c<0\/4<=c\/v<0\/5<v
  ·rw[if_pos hc];exact ok
  rw[if_neg hc]
  have s:=ok.seg k.toNat
  refine ok.upd ⟨s.gen,s.kind,s.n,λi=>?_,s.taken,s.words⟩ rfl
  simp only[Seg.mark]
  by_cases h:i=c.toNat
  ·rw[if_pos h];omega
  ·rw[if_neg h];exact s.cards i
 ·rw[if_pos hk];exact ok

structure Sp where
 mem:Mem
 cur:Nat->Nat->Int
structure Blk where
 h:Nat
 c:Nat
 sp:Nat
 m:Nat
 s:Nat
def Blk.all(b:Blk):List Nat:=[b.h,b.c,b.sp,b.m,b.s]
structure SpOK (s:Sp):Prop where
 mem:cF s.mem
 cur: ∀g k,s.cur g k=0\/(1<=s.cur g k/\s.mem.has (s.cur g k-1)/\(s.mem.seg (s.cur g k-1).toNat).gen=g/\(s.mem.seg (s.cur g k-1).toNat).kind=k)
structure SpAt (H:zW) (b:Blk) (s:Sp):Prop where
 mem:eP H b.m b.s s.mem
 ne:b.sp≠b.m/\b.sp≠b.s
 sp: ∃cs:Array Value,H[b.sp]?=some (.cells cs 62 (0,0))/\cs.size=21/\cs[0]?=some (.pointer (some ⟨b.m,0,none⟩))/\ ∀g k,g<5->k<4->cs[1+g*4+k]?=some (.int .i64 (s.cur g k))
theorem SpAt.keep{S:List Nat}{H H':zW}{b:Blk}{s:Sp}(h:SpAt H b s)(f:Fr S H H')(h0:b.sp ∉ S)(h1:b.m ∉ S)(h2:b.s ∉ S):SpAt H' b s:=by
 obtain⟨cs,hb,hr⟩:=h.sp
 exact⟨h.mem.keep f h1 h2,h.ne,cs,f.get h0 hb,hr⟩
theorem SpAt.ext{H H':zW}{b:Blk}{s:Sp}(h:SpAt H b s)(f:Ext H H'):SpAt H' b s:=h.keep (S:=[]) f.fr (by simp) (by simp) (by simp)
theorem SpAt.withMem{S:List Nat}{H H':zW}{b:Blk}{s:Sp}{m:Mem}(h:SpAt H b s)(f:Fr S H H')(h0:b.sp ∉ S)(hm:eP H' b.m b.s m):SpAt H' b {s with mem:=m}:=by
 obtain⟨cs,hb,hr⟩:=h.sp
 exact⟨hm,h.ne,cs,f.get h0 hb,hr⟩
theorem SpAt.memPtr{H:zW}{b:Blk}{s:Sp}(h:SpAt H b s):hat H ⟨b.sp,0,none⟩=some (.pointer (some ⟨b.m,0,none⟩)):=by
 obtain⟨cs,hb,_,h0,_⟩:=h.sp
 rw[aU hb,h0]
theorem SpAt.curAt{H:zW}{b:Blk}{s:Sp}(h:SpAt H b s){g k:Nat}(hg:g<5)(hk:k<4):hat H ⟨b.sp,1+g*4+k,none⟩=some (.int .i64 (s.cur g k)):=by
 obtain⟨cs,hb,_,_,hc⟩:=h.sp
 rw[aU hb,hc g k hg hk]
def Sp.setCur(s:Sp)(g k:Nat)(v:Int):Sp:={s with cur:=λi j=>if i=g/\j=k then v else s.cur i j}
theorem SpAt.putCur{H:zW}{b:Blk}{s:Sp}(h:SpAt H b s){g k:Nat}{v:Int}(hg:g<5)(hk:k<4):
  aJ H ⟨b.sp,1+g*4+k,none⟩ 0 1/\SpAt (aP H ⟨b.sp,1+g*4+k,none⟩ [.int .i64 v] 0) b (s.setCur g k v)/\Fr [b.sp] H (aP H ⟨b.sp,1+g*4+k,none⟩ [.int .i64 v] 0):=by
 obtain⟨cs,hb,hs,h0,hc⟩:=h.sp
 refine⟨eJ hb _ _ _ (by omega),?_⟩
 rw[gj _ H cs _ 0 hb]
 refine⟨⟨h.mem.keep (S:=[b.sp]) Fr.set (by have:=h.ne;simp;omega) (by have:=h.ne;simp;omega),h.ne,_,dU (bI hb),by rw[splice_size];exact hs,?_,λi j hi hj=>?_⟩,Fr.set⟩
 ·rw[eD _ _ _ _ (by omega)];exact h0
 ·simp only[Sp.setCur]
  by_cases e:i=g/\j=k
  ·rw[if_pos e,e.1,e.2]
   have:=fT cs [.int .i64 v] (1+g*4+k+0) 0 (by simp;omega) (by simp)
   simpa using this
  ·rw[if_neg e,<-hc i j hi hj]
   rcases Nat.lt_or_ge (1+i*4+j) (1+g*4+k)with hl | hl
   ·exact eD _ _ _ _ (by omega)
   ·exact hU _ _ _ _ (by simp;omega)

theorem ob{H:zW}{b:Blk}{s:Sp}(h:SpAt H b s):fB.C (some ⟨b.sp,0,none⟩) H (λv H'=>v=.bool false/\H'=H):=by
 refine HC.via λR hR=>fB.link ?_
 unfold fB.pt
 rw[onPtr_some]
 refine⟨_,h.memPtr,?_⟩
 rw[onPtr_some]
 exact hR _ _ ⟨rfl,rfl⟩

def may(gen kind n:Int):Prop:=(0<=gen/\gen<=4)/\(((kind=0\/kind=1)/\n=2)\/((kind=2\/kind=3)/\1<=n/\n<=63))
instance (gen kind n:Int):Decidable (may gen kind n):=by unfold may;infer_instance
theorem oQ{H:zW}{gen kind n:Int}:iG.C gen kind n H (λv H'=>v=.bool (decide (may gen kind n))/\H'=H):=by
 refine HC.via λR hR=>iG.link ?_
 unfold iG.pt
 by_cases h1:gen<0\/gen>4
 ·rw[if_pos (by simpa using h1)]
  exact hR _ _ ⟨by rw[zJ (λh=>by have:=h.1;omega)],rfl⟩
 rw[if_neg (by simpa using h1)]
 by_cases h2:kind=0\/kind=1
 ·rw[if_pos (by simpa using h2)]
  refine hR _ _ ⟨?_,rfl⟩
  congr 1
  rw[Bool.eq_iff_iff,decide_eq_true_eq]
  unfold may
  simp only[decide_eq_true_eq,beq_iff_eq,Bool.and_eq_true,Bool.or_eq_true]
  omega
 ·rw[if_neg (by simpa using h2)]
  refine hR _ _ ⟨?_,rfl⟩
  congr 1
  rw[Bool.eq_iff_iff,decide_eq_true_eq]
  unfold may
  simp only[decide_eq_true_eq,beq_iff_eq,Bool.and_eq_true,Bool.or_eq_true]
  omega

theorem mm{H:zW}{b:Blk}{s:Sp}{gen kind:Int}(h:SpAt H b s)(ok:SpOK s)(hg:0<=gen/\gen<=4)(hk:0<=kind/\kind<=3):
  dM.C (some ⟨b.sp,0,none⟩) gen kind H (λv H'=>v=(if s.cur gen.toNat kind.toNat=0 then .tuple #[.int .i64 0,.bool false]else .tuple #[.int .i64 (s.cur gen.toNat kind.toNat-1),.bool true])/\H'=H):=by
 refine HC.via λR hR=>dM.link ?_
 unfold dM.pt zq
 rw[onPtr_some,if_neg (by omega),if_neg (by omega),if_neg (by omega),if_neg (by omega)]
 have hc:hat H (Addr.add (Addr.add (Addr.add ⟨b.sp,0,none⟩ 1) (gen.toNat*4)) (kind.toNat*1))=some (.int .i64 (s.cur gen.toNat kind.toNat)):=by
  simp only[addr_add_mk,Nat.zero_add,Nat.mul_one]
  exact h.curAt (by omega) (by omega)
 refine⟨by omega,by omega,_,hc,?_⟩
 by_cases h0:s.cur gen.toNat kind.toNat=0
 ·rw[if_pos h0];exact hR _ _ ⟨by rw[if_pos h0],rfl⟩
 ·rw[if_neg h0]
  refine⟨by omega,by omega,_,hc,hR _ _ ⟨?_,rfl⟩⟩
  rw[if_neg h0]
  have hl:=ok.mem.lim
  rcases ok.cur gen.toNat kind.toNat with h1 | ⟨h1,h2,_⟩
  ·exact absurd h1 h0
  ·rw[w64 (by have:=h2.2.1;omega)]

def Sp.alloc(s:Sp)(gen kind n:Int):Sp×Int×Int:=
 if ¬may gen kind n then(s,0,1)
 else if s.cur gen.toNat kind.toNat≠0/\(s.mem.bump (s.cur gen.toNat kind.toNat-1) n).2.2=0 then
  ({s with mem:=(s.mem.bump (s.cur gen.toNat kind.toNat-1) n).1},(s.mem.bump (s.cur gen.toNat kind.toNat-1) n).2.1,0)
 else if(s.mem.take gen kind).2.2=0 then
  ({mem:=((s.mem.take gen kind).1.bump (s.mem.take gen kind).2.1 n).1,cur:=(s.setCur gen.toNat kind.toNat ((s.mem.take gen kind).2.1+1)).cur},((s.mem.take gen kind).1.bump (s.mem.take gen kind).2.1 n).2.1,((s.mem.take gen kind).1.bump (s.mem.take gen kind).2.1 n).2.2)
 else(s,0,(s.mem.take gen kind).2.2)

theorem nz{H:zW}{b:Blk}{s:Sp}{gen kind n:Int}(h:SpAt H b s)(ok:SpOK s)(hcnt:s.mem.count<4611686018427387904):
  eL.C (some ⟨b.sp,0,none⟩) gen kind n H (λv H'=>v=.tuple #[.int .i64 (s.alloc gen kind n).2.1,.int .i64 (s.alloc gen kind n).2.2]/\SpAt H' b (s.alloc gen kind n).1/\Fr [b.sp,b.m,b.s] H H'):=by
 refine HC.via λR hR=>eL.link ?_
 unfold eL.pt zq
 refine HC.mono (ob h) ?_
 rintro _ H1 ⟨rfl,rfl⟩
 refine⟨_,rfl,?_⟩
 rw[if_neg (by decide)]
 refine HC.mono oQ ?_
 rintro _ H1 ⟨rfl,rfl⟩
 refine⟨_,rfl,?_⟩
 by_cases hm:may gen kind n
 case neg=>
  rw[if_neg (by simpa using hm)]
  have e:s.alloc gen kind n=(s,0,1):=by unfold Sp.alloc;rw[if_pos hm]
  rw[e]at hR
  exact hR _ _ ⟨rfl,h,Fr.refl _ _⟩
 rw[if_pos (zQ hm)]
 have hg:=hm.1
 have hk:0<=kind/\kind<=3:=by have:=hm.2;omega
 refine HC.mono (mm h ok hg hk) ?_
 rintro _ H1 ⟨rfl,rfl⟩
 have hcv: ∃(ra:Int) (rb:Bool),(if s.cur gen.toNat kind.toNat=0 then Value.tuple #[.int .i64 0,.bool false]else .tuple #[.int .i64 (s.cur gen.toNat kind.toNat-1),.bool true])=.tuple #[.int .i64 ra,.bool rb]/\((rb=false/\s.cur gen.toNat kind.toNat=0)\/(rb=true/\s.cur gen.toNat kind.toNat≠0/\ra=s.cur gen.toNat kind.toNat-1)):=by
  by_cases h0:s.cur gen.toNat kind.toNat=0
  ·rw[if_pos h0];exact⟨_,_,rfl,.inl ⟨rfl,h0⟩⟩
  ·rw[if_neg h0];exact⟨_,_,rfl,.inr ⟨rfl,h0,rfl⟩⟩
 obtain⟨ra,rb,hv,hd⟩:=hcv
 refine⟨ra,rb,hv,?_⟩
 refine⟨λH'=>SpAt H' b s/\Fr [b.sp,b.m,b.s] H1 H'/\ ¬(s.cur gen.toNat kind.toNat≠0/\(s.mem.bump (s.cur gen.toNat kind.toNat-1) n).2.2=0),?_,?_⟩
 ·rcases hd with⟨rfl,h0⟩ | ⟨rfl,h0,rfl⟩
  ·rw[if_neg (by decide)]
   exact⟨h,Fr.refl _ _,λhh=>hh.1 h0⟩
  ·rw[if_pos rfl]
   refine⟨_,rfl,_,h.memPtr,?_⟩
   refine HC.mono (mQ h.mem ok.mem) ?_
   rintro _ H2 ⟨rfl,hm2,f2⟩
   refine⟨_,_,rfl,?_⟩
   have f2':Fr [b.sp,b.m,b.s] H1 H2:=f2.mono (λi hi _=>by simp at hi;simp[hi])
   by_cases hb:(s.mem.bump (s.cur gen.toNat kind.toNat-1) n).2.2=0
   ·rw[if_pos hb]
    have e:s.alloc gen kind n=({s with mem:=(s.mem.bump (s.cur gen.toNat kind.toNat-1) n).1},(s.mem.bump (s.cur gen.toNat kind.toNat-1) n).2.1,0):=by
     unfold Sp.alloc;rw[if_neg (λhh=>hh hm),if_pos ⟨h0,hb⟩]
    rw[e]at hR
    exact hR _ _ ⟨rfl,h.withMem f2 (by have:=h.ne;simp;omega) hm2,f2'⟩
   ·rw[if_neg hb]
    rw[Mem.bump_fail hb]at hm2
    have:=h.withMem f2 (by have:=h.ne;simp;omega) hm2
    exact⟨this,f2',λhh=>hb hh.2⟩
 rintro H4 ⟨h4,f4,hno⟩
 refine⟨_,rfl,_,h4.memPtr,?_⟩
 refine HC.mono (pZ h4.mem ok.mem hcnt) ?_
 rintro _ H5 ⟨rfl,hm5,f5⟩
 refine⟨_,_,rfl,?_⟩
 have nsp:b.sp ∉ [b.m,b.s]:=by have:=h.ne;simp;omega
 have f5':Fr [b.sp,b.m,b.s] H1 H5:=f4.trans (f5.mono (λi hi _=>by simp at hi;simp;omega))
 by_cases ht:(s.mem.take gen kind).2.2=0
 ·rw[if_pos ht]
  have h5:=h4.withMem f5 nsp hm5
  have hp:=h5.putCur (g:=gen.toNat) (k:=kind.toNat) (v:=(s.mem.take gen kind).2.1+1) (by omega) (by omega)
  have ht2: -9223372036854775808<=(s.mem.take gen kind).2.1+1/\(s.mem.take gen kind).2.1+1<=9223372036854775807:=by
   have hl:=ok.mem.lim
   unfold Mem.take at ht⊢
   rw[if_neg (by omega)]at ht⊢
   by_cases hf:s.mem.free=0
   ·rw[if_pos hf]at ht;exact absurd ht (show ¬((2:Int)=0)by decide)
   ·rw[if_neg hf]
    have:=(Mem.first_spec ok.mem hf).1
    show-9223372036854775808<=(s.mem.first:Int)+1/\(s.mem.first:Int)+1<=_
    omega
  simp only[addr_add_mk,Nat.zero_add,Nat.mul_one]
  rw[w64 ht2]
  refine⟨by omega,by omega,hp.1,λH6 hH6=>?_⟩
  subst hH6
  refine⟨_,hp.2.1.memPtr,?_⟩
  refine HC.mono (mQ hp.2.1.mem (ok.mem.take gen kind)) ?_
  rintro _ H7 ⟨rfl,hm7,f7⟩
  refine⟨_,_,rfl,?_⟩
  have e:s.alloc gen kind n=({mem:=((s.mem.take gen kind).1.bump (s.mem.take gen kind).2.1 n).1,cur:=(s.setCur gen.toNat kind.toNat ((s.mem.take gen kind).2.1+1)).cur},((s.mem.take gen kind).1.bump (s.mem.take gen kind).2.1 n).2.1,((s.mem.take gen kind).1.bump (s.mem.take gen kind).2.1 n).2.2):=by
   unfold Sp.alloc;rw[if_neg (λhh=>hh hm),if_neg hno,if_pos ht]
  rw[e]at hR
  refine hR _ _ ⟨rfl,hp.2.1.withMem f7 (by have:=h.ne;simp;omega) hm7,?_⟩
  exact(f5'.trans (hp.2.2.mono (λi hi _=>by simp at hi;simp[hi]))).trans (f7.mono (λi hi _=>by simp at hi;simp[hi]))
 ·rw[if_neg ht]
  have e:s.alloc gen kind n=(s,0,(s.mem.take gen kind).2.2):=by
   unfold Sp.alloc;rw[if_neg (λhh=>hh hm),if_neg hno,if_neg ht]
  rw[e]at hR
  have hme:(s.mem.take gen kind).1=s.mem:=by
   unfold Mem.take at ht⊢
   by_cases h1:gen<0\/4<gen\/kind<0\/3<kind
   ·rw[if_pos h1]
   rw[if_neg h1]at ht⊢
   by_cases h2:s.mem.free=0
   ·rw[if_pos h2]
   ·rw[if_neg h2]at ht;exact absurd rfl ht
  rw[hme]at hm5
  exact hR _ _ ⟨rfl,h4.withMem f5 nsp hm5,f5'⟩

theorem oR{H:zW}{limit:Int}(hl:I64 limit):
  iE.C limit H (λv H'=>(¬(8<=limit/\limit<=1024)/\v=.tuple #[.pointer none,.int .i64 1]/\Ext H H')\/
   ((8<=limit/\limit<=1024)/\ ∃b:Blk,v=.tuple #[.pointer (some ⟨b.sp,0,none⟩),.int .i64 0]/\SpAt H' b ⟨Mem.fresh limit.toNat,λ_ _=>0⟩/\Ext H H'/\H.size<=b.s/\b.s<b.m/\b.m<b.sp)):=by
 refine HC.via λR hR=>iE.link ?_
 unfold iE.pt
 refine HC.mono (qR hl) ?_
 rintro _ H1 (⟨hn,rfl,rfl⟩ | ⟨hy,bm,bs,rfl,hm,e1,hbs,hbm⟩)
 ·refine⟨_,_,rfl,?_⟩
  rw[if_neg (by decide)]
  exact hR _ _ (.inl ⟨hn,rfl,Ext.refl _⟩)
 ·refine⟨_,_,rfl,?_⟩
  rw[if_pos rfl]
  intro b H2 hb hH2
  have hlt:=hm.lt
  refine hR _ _ (.inr ⟨hy,⟨0,0,b,bm,bs⟩,rfl,?_,e1.trans (Ext.push' hH2),hbs,hbm,by show bm<b;omega⟩)
  refine⟨hm.ext (Ext.push' hH2),⟨by show b≠bm;omega,by show b≠bs;omega⟩,_,aO hb hH2,rfl,rfl,λg k hg hk=>?_⟩
  have h5:g=0\/g=1\/g=2\/g=3\/g=4:=by omega
  have h4:k=0\/k=1\/k=2\/k=3:=by omega
  rcases h5 with rfl | rfl | rfl | rfl | rfl<;>rcases h4 with rfl | rfl | rfl | rfl<;>rfl
theorem p8{limit:Nat}(h:8<=limit/\limit<=1024):SpOK ⟨Mem.fresh limit,λ_ _=>0⟩:=⟨oP h,λ_ _=> .inl rfl⟩

structure CdAt (H:zW) (b:Blk) (s:Sp):Prop where
 sp:SpAt H b s
 ne:b.c≠b.sp/\b.c≠b.m/\b.c≠b.s
 c:H[b.c]?=some (.cells #[.pointer (some ⟨b.sp,0,none⟩)] 57 (0,0))
theorem CdAt.keep{S:List Nat}{H H':zW}{b:Blk}{s:Sp}(h:CdAt H b s)(f:Fr S H H')(h3:b.c ∉ S)(h0:b.sp ∉ S)(h1:b.m ∉ S)(h2:b.s ∉ S):CdAt H' b s:=
 ⟨h.sp.keep f h0 h1 h2,h.ne,f.get h3 h.c⟩
theorem CdAt.ext{H H':zW}{b:Blk}{s:Sp}(h:CdAt H b s)(f:Ext H H'):CdAt H' b s:=h.keep (S:=[]) f.fr (by simp) (by simp) (by simp) (by simp)
theorem CdAt.withSp{S:List Nat}{H H':zW}{b:Blk}{s s':Sp}(h:CdAt H b s)(f:Fr S H H')(h3:b.c ∉ S)(hs:SpAt H' b s'):CdAt H' b s':=⟨hs,h.ne,f.get h3 h.c⟩
theorem CdAt.cPtr{H:zW}{b:Blk}{s:Sp}(h:CdAt H b s):hat H ⟨b.c,0,none⟩=some (.pointer (some ⟨b.sp,0,none⟩)):=by rw[aU h.c];rfl
theorem CdAt.withMem{H H':zW}{b:Blk}{s:Sp}{m:Mem}{S:List Nat}(h:CdAt H b s)(f:Fr S H H')(hS: ∀i,i∈S->i=b.m\/i=b.s)(hm:eP H' b.m b.s m):CdAt H' b {s with mem:=m}:=
 h.withSp f (λhi=>by have:=hS _ hi;have:=h.ne;omega) (h.sp.withMem f (λhi=>by have:=hS _ hi;have:=h.sp.ne;omega) hm)

theorem lZ{H:zW}{b:Blk}{s:Sp}(h:CdAt H b s):eS.C (some ⟨b.c,0,none⟩) H (λv H'=>v=.bool false/\H'=H):=by
 refine HC.via λR hR=>eS.link ?_
 unfold eS.pt
 rw[onPtr_some]
 refine⟨_,h.cPtr,?_⟩
 rw[onPtr_some]
 refine⟨_,h.cPtr,_,rfl,_,h.sp.memPtr,?_⟩
 rw[onPtr_some]
 exact hR _ _ ⟨rfl,rfl⟩

def jN(w:Int):Prop:=(w % 8=1\/w % 8=2\/w % 8=3\/w % 8=6)/\w / 8<65536
instance (w:Int):Decidable (jN w):=by unfold jN;infer_instance
def Mem.genOf(m:Mem)(w:Int):Int×Bool:=if jN w/\w % 8≠6 then((if m.has (w / 8 / 64)then(m.seg (w / 8 / 64).toNat).gen else 0),decide (m.has (w / 8 / 64)))else(0,false)
theorem p9{H:zW}{b:Blk}{s:Sp}{w:Int}(h:CdAt H b s)(hw:aM w):gf.C (some ⟨b.c,0,none⟩) w H (λv H'=>v=.tuple #[.int .i64 (s.mem.genOf w).1,.bool (s.mem.genOf w).2]/\Ext H H'):=by
 refine HC.via λR hR=>gf.link ?_
 unfold gf.pt zq
 refine HC.mono (lW hw) ?_
 rintro _ H1 ⟨rfl,e1⟩
 have hv: ∃(a:Int) (p:Bool),(if(w % 8=1\/w % 8=2\/w % 8=3\/w % 8=6)/\w / 8<65536 then Value.tuple #[.int .i64 (w / 8),.bool true]else .tuple #[.int .i64 0,.bool false])=.tuple #[.int .i64 a,.bool p]/\((jN w/\p=true/\a=w / 8)\/(¬jN w/\p=false)):=by
  by_cases hh:(w % 8=1\/w % 8=2\/w % 8=3\/w % 8=6)/\w / 8<65536
  ·rw[if_pos hh];exact⟨_,_,rfl,.inl ⟨hh,rfl,rfl⟩⟩
  ·rw[if_neg hh];exact⟨_,_,rfl,.inr ⟨hh,rfl⟩⟩
 obtain⟨a,p,hv,hd⟩:=hv
 refine⟨a,p,hv,?_⟩
 refine HC.mono (lZ (h.ext e1)) ?_
 rintro _ H2 ⟨rfl,rfl⟩
 refine⟨_,rfl,?_⟩
 rw[if_neg (by decide)]
 rcases hd with⟨ha,rfl,rfl⟩ | ⟨ha,rfl⟩
 case inr=>
  rw[if_neg (by decide)]
  have e:s.mem.genOf w=(0,false):=by unfold Mem.genOf;rw[if_neg (λhh=>ha hh.1)]
  rw[e]at hR
  exact hR _ _ ⟨rfl,e1⟩
 rw[if_pos rfl]
 refine HC.mono (jh hw) ?_
 rintro _ H3 ⟨rfl,e3⟩
 refine⟨_,rfl,?_⟩
 by_cases h6:w % 8=6
 ·rw[if_pos h6]
  have e:s.mem.genOf w=(0,false):=by unfold Mem.genOf;rw[if_neg (λhh=>hh.2 h6)]
  rw[e]at hR
  exact hR _ _ ⟨rfl,e1.trans e3⟩
 rw[if_neg h6]
 have h3:=h.ext (e1.trans e3)
 have hw8:w / 8<65536:=ha.2
 have hw0:0<=w / 8:=by have:=hw.1;omega
 refine⟨_,rfl,_,h3.cPtr,_,rfl,_,h3.sp.memPtr,?_⟩
 rw[ic hw0,w64 (by omega)]
 refine HC.mono (jE h3.sp.mem) ?_
 rintro _ H4 ⟨rfl,e4⟩
 have e:s.mem.genOf w=((if s.mem.has (w / 8 / 64)then s.mem.seg (w / 8 / 64).toNat else Seg.none).gen,decide (s.mem.has (w / 8 / 64))):=by
  unfold Mem.genOf;rw[if_pos ⟨ha,h6⟩];by_cases hh:s.mem.has (w / 8 / 64)
  ·rw[if_pos hh,if_pos hh]
  ·rw[if_neg hh,if_neg hh];rfl
 rw[e]at hR
 generalize (if s.mem.has (w / 8 / 64)then s.mem.seg (w / 8 / 64).toNat else Seg.none)=sg at hR
 refine⟨_,_,_,_,_,_,_,_,rfl,λb1 H5 hb hH5=>?_⟩
 obtain⟨hc,hs⟩:=boxed (vs:=[.int .i64 sg.gen,.int .i64 sg.kind,.int .i64 sg.n,.int .i64 (sg.cards 0),.int .i64 (sg.cards 1),.int .i64 (sg.cards 2),.int .i64 (sg.cards 3)]) (H1:=H5) (aO hb hH5) rfl rfl
 refine⟨hc,λH6 hH6=>?_⟩
 obtain⟨hrow,hE⟩:=hs H6 hH6
 have e4':Ext H H4:=(e1.trans e3).trans e4
 exact⟨_,by have:=hrow.1;rw[addr_add_mk]at this;exact this,hR _ _ ⟨rfl,hE H (e4'.trans (Ext.push' hH5)) (by have:=e4'.size;omega)⟩⟩

def Mem.younger(m:Mem)(sg:Seg)(w mark:Int):Int:=if(m.genOf w).2=true/\sg.kind≠3/\(m.genOf w).1<sg.gen then min mark (m.genOf w).1 else mark
theorem mR{H:zW}{b:Blk}{s:Sp}{sg:Seg}{w mark:Int}(h:CdAt H b s)(hw:aM w):
  dX.C (some ⟨b.c,0,none⟩) sg.gen sg.kind sg.n (sg.cards 0) (sg.cards 1) (sg.cards 2) (sg.cards 3) w mark H (λv H'=>v=.int .i64 (s.mem.younger sg w mark)/\Ext H H'):=by
 refine HC.via λR hR=>dX.link ?_
 unfold dX.pt
 intro b1 H1 hb hH1
 have e1:Ext H H1:=Ext.push' hH1
 have g1:=aO hb hH1
 refine HC.mono (p9 (h.ext e1) hw) ?_
 rintro _ H2 ⟨rfl,e2⟩
 have e12:=e1.trans e2
 have g2:=e2.get g1
 refine⟨_,_,rfl,?_⟩
 by_cases hok:(s.mem.genOf w).2=true
 case neg=>
  rw[if_neg hok]
  exact hR _ _ ⟨by unfold Mem.younger;rw[if_neg (λhh=>hok hh.1)],e12⟩
 rw[if_pos hok]
 refine⟨sg.kind,by rw[addr_add_mk,aU g2];rfl,?_⟩
 by_cases hk:sg.kind=3
 ·rw[if_pos hk];exact hR _ _ ⟨by unfold Mem.younger;rw[if_neg (λhh=>hh.2.1 hk)],e12⟩
 rw[if_neg hk]
 refine⟨sg.gen,by rw[aU g2];rfl,?_⟩
 by_cases hl:(s.mem.genOf w).1<sg.gen
 ·rw[if_pos hl]
  refine hR _ _ ⟨?_,e12⟩
  have hmin:(if(s.mem.genOf w).1<mark then(s.mem.genOf w).1 else mark)=min mark (s.mem.genOf w).1:=by
   by_cases hm:(s.mem.genOf w).1<mark
   ·rw[if_pos hm];omega
   ·rw[if_neg hm];omega
  have hy:s.mem.younger sg w mark=min mark (s.mem.genOf w).1:=by
   unfold Mem.younger;rw[if_pos (show(s.mem.genOf w).2=true/\sg.kind≠3/\(s.mem.genOf w).1<sg.gen from⟨hok,hk,hl⟩)]
  rw[hmin,hy]
 ·rw[if_neg hl];exact hR _ _ ⟨by unfold Mem.younger;rw[if_neg (λhh=>hl hh.2.2)],e12⟩

def Mem.store(m:Mem)(a w:Int):Mem×Int:=
 if m.used a then(m.set a w).mark (a / 64) (a % 64 / 16) ((m.set a w).younger ((m.set a w).seg (a / 64).toNat) w (((m.set a w).seg (a / 64).toNat).cards (a % 64 / 16).toNat))
 else(m,18)
theorem Mem.set_has{m:Mem}{a w k:Int}:(m.set a w).has k ↔ m.has k:=by
 unfold Mem.has Mem.set
 rw[Mem.upd_limit,Mem.upd_seg]
 by_cases h:k.toNat=(a / 64).toNat
 ·rw[if_pos h];simp only[Seg.set,h]
 ·rw[if_neg h]
theorem lq{H:zW}{b:Blk}{s:Sp}{a w:Int}(h:CdAt H b s)(ok:SpOK s)(ha:I64 a)(hw:aM w):
  eH.C (some ⟨b.c,0,none⟩) a w H (λv H'=>v=.int .i64 (s.mem.store a w).2/\CdAt H' b {s with mem:=(s.mem.store a w).1}/\Fr [b.m,b.s] H H'):=by
 refine HC.via λR hR=>eH.link ?_
 unfold eH.pt zq
 refine HC.mono (lZ h) ?_
 rintro _ H1 ⟨rfl,rfl⟩
 refine⟨_,rfl,?_⟩
 rw[if_neg (by decide)]
 refine⟨_,rfl,_,h.cPtr,_,rfl,_,h.sp.memPtr,?_⟩
 refine HC.mono (lY h.sp.mem ok.mem ha.2) ?_
 rintro _ H2 ⟨rfl,hm2,f2⟩
 refine⟨_,rfl,?_⟩
 have f2':Fr [b.m,b.s] H1 H2:=f2.mono (λi hi _=>by simp at hi;simp[hi])
 by_cases hu:s.mem.used a
 case neg=>
  rw[if_neg hu]at hm2
  have e:s.mem.store a w=(s.mem,18):=by unfold Mem.store;rw[if_neg hu]
  rw[e]at hR
  rw[if_neg hu,if_neg (by decide)]
  exact hR _ _ ⟨rfl,h.withMem f2' (by simp) hm2,f2'⟩
 rw[if_pos hu]at hm2
 rw[if_pos hu,if_pos rfl]
 have h2:=h.withMem f2' (by simp) hm2
 have a0:=hu.1
 have hhas:(s.mem.set a w).has (a / 64):=Mem.set_has.2 hu.2.1
 have q1:IntKind.wrap .i64 (Int.tdiv a 64)=a / 64:=by rw[ic a0,w64 (by omega)]
 have q2:IntKind.wrap .i64 (Int.tdiv (Int.tmod a 64) 16)=a % 64 / 16:=by rw[gP a0,ic (by omega),w64 (by omega)]
 refine⟨_,h2.cPtr,_,rfl,_,h2.sp.memPtr,?_⟩
 rw[q1,q2]
 refine HC.mono (jE h2.sp.mem) ?_
 rintro _ H3 ⟨rfl,e3⟩
 rw[if_pos hhas]
 have est:s.mem.store a w=(s.mem.set a w).mark (a / 64) (a % 64 / 16) ((s.mem.set a w).younger ((s.mem.set a w).seg (a / 64).toNat) w (((s.mem.set a w).seg (a / 64).toNat).cards (a % 64 / 16).toNat)):=by unfold Mem.store;rw[if_pos hu]
 rw[est]at hR
 generalize hsg:(s.mem.set a w).seg (a / 64).toNat=sg at hR
 refine⟨_,_,_,_,_,_,_,_,rfl,λb1 H4 hb hH4=>?_⟩
 obtain⟨hc,hs⟩:=boxed (vs:=[.int .i64 sg.gen,.int .i64 sg.kind,.int .i64 sg.n,.int .i64 (sg.cards 0),.int .i64 (sg.cards 1),.int .i64 (sg.cards 2),.int .i64 (sg.cards 3)]) (H1:=H4) (aO hb hH4) rfl rfl
 refine⟨hc,λH5 hH5=>?_⟩
 obtain⟨hrow,hE⟩:=hs H5 hH5
 have e25:Ext H2 H5:=hE H2 (e3.trans (Ext.push' hH4)) (by have:=e3.size;omega)
 have h5:=h2.ext e25
 refine⟨_,h5.cPtr,_,rfl,_,h5.sp.memPtr,_,_,_,_,_,_,_,hrow,⟨by omega,by omega⟩,sg.cards (a % 64 / 16).toNat,?_,?_⟩
 ·have hc4:(a % 64 / 16).toNat=0\/(a % 64 / 16).toNat=1\/(a % 64 / 16).toNat=2\/(a % 64 / 16).toNat=3:=by omega
  simp only[addr_add_mk,Nat.mul_one,Nat.zero_add]
  have rd:=gZ hrow (3+(a % 64 / 16).toNat)
  simp only[addr_add_mk,Nat.zero_add]at rd
  refine rd _ ?_
  rcases hc4 with e | e | e | e<;>rw[e]<;>rfl
 refine HC.mono (mR (sg:=sg) h5 hw) ?_
 rintro _ H6 ⟨rfl,e6⟩
 have h6:=h5.ext e6
 refine⟨_,rfl,⟨by rw[addr_add_mk];exact h6.cPtr,trivial⟩,⟨by rw[addr_add_mk];exact h6.sp.memPtr,trivial⟩,?_⟩
 refine HC.mono (pY h6.sp.mem) ?_
 rintro _ H7 ⟨rfl,hm7,f7⟩
 refine⟨_,rfl,hR _ _ ⟨rfl,?_,?_⟩⟩
 ·exact h6.withMem (f7.mono (S':=[b.m,b.s]) (λi hi _=>by simp at hi;simp[hi])) (by simp) hm7
 ·exact(f2'.trans (e25.trans e6).fr).trans (f7.mono (λi hi _=>by simp at hi;simp[hi]))

theorem qa{H:zW}{limit:Int}(hl:I64 limit):
  iZ.C limit H (λv H'=>(¬(8<=limit/\limit<=1024)/\v=.tuple #[.pointer none,.int .i64 1]/\Ext H H')\/
   ((8<=limit/\limit<=1024)/\ ∃b:Blk,v=.tuple #[.pointer (some ⟨b.c,0,none⟩),.int .i64 0]/\CdAt H' b ⟨Mem.fresh limit.toNat,λ_ _=>0⟩/\Ext H H'/\H.size<=b.s/\b.s<b.m/\b.m<b.sp/\b.sp<b.c)):=by
 refine HC.via λR hR=>iZ.link ?_
 unfold iZ.pt
 refine HC.mono (oR hl) ?_
 rintro _ H1 (⟨hn,rfl,e1⟩ | ⟨hy,b,rfl,hs,e1,hbs,hbm,hsp⟩)
 ·refine⟨_,_,rfl,?_⟩
  rw[if_neg (by decide)]
  exact hR _ _ (.inl ⟨hn,rfl,e1⟩)
 ·refine⟨_,_,rfl,?_⟩
  rw[if_pos rfl]
  intro b1 H2 hb hH2
  have hlt:b.sp<H1.size:=by obtain⟨cs,hh,_⟩:=hs.sp;exact bI hh
  have hs2:=hs.ext (Ext.push' hH2)
  refine hR _ _ (.inr ⟨hy,{b with c:=b1},rfl,⟨⟨hs2.mem,hs2.ne,hs2.sp⟩,⟨by show b1≠b.sp;omega,by show b1≠b.m;omega,by show b1≠b.s;omega⟩,aO hb hH2⟩,e1.trans (Ext.push' hH2),hbs,hbm,hsp,by show b.sp<b1;omega⟩)

structure Hp where
 sp:Sp
 sy:Value
 en:Value
 ep:Int
structure HpAt (H:zW) (b:Blk) (x:Hp):Prop where
 cd:CdAt H b x.sp
 ne:b.h≠b.c/\b.h≠b.sp/\b.h≠b.m/\b.h≠b.s
 h:H[b.h]?=some (.cells #[.pointer (some ⟨b.c,0,none⟩),x.sy,x.en,.int .u64 x.ep] 54 (0,0))
theorem HpAt.keep{S:List Nat}{H H':zW}{b:Blk}{x:Hp}(h:HpAt H b x)(f:Fr S H H')(hS: ∀i,i∈S->i ∉ b.all):HpAt H' b x:=
 ⟨h.cd.keep f (λhi=>hS _ hi (by simp[Blk.all])) (λhi=>hS _ hi (by simp[Blk.all])) (λhi=>hS _ hi (by simp[Blk.all])) (λhi=>hS _ hi (by simp[Blk.all])),h.ne,f.get (λhi=>hS _ hi (by simp[Blk.all])) h.h⟩
theorem HpAt.ext{H H':zW}{b:Blk}{x:Hp}(h:HpAt H b x)(f:Ext H H'):HpAt H' b x:=h.keep (S:=[]) f.fr (by simp)
theorem HpAt.withCd{S:List Nat}{H H':zW}{b:Blk}{x:Hp}{s:Sp}(h:HpAt H b x)(f:Fr S H H')(hS: ∀i,i∈S->i=b.sp\/i=b.m\/i=b.s)(hc:CdAt H' b s):HpAt H' b {x with sp:=s}:=
 ⟨hc,h.ne,f.get (λhi=>by have:=hS _ hi;have:=h.ne;omega) h.h⟩
theorem HpAt.withSp{S:List Nat}{H H':zW}{b:Blk}{x:Hp}{s:Sp}(h:HpAt H b x)(f:Fr S H H')(hS: ∀i,i∈S->i=b.sp\/i=b.m\/i=b.s)(hc:SpAt H' b s):HpAt H' b {x with sp:=s}:=
 h.withCd f hS (h.cd.withSp f (λhi=>by have:=hS _ hi;have:=h.cd.ne;omega) hc)
theorem HpAt.withMem{S:List Nat}{H H':zW}{b:Blk}{x:Hp}{m:Mem}(h:HpAt H b x)(f:Fr S H H')(hS: ∀i,i∈S->i=b.m\/i=b.s)(hc:eP H' b.m b.s m):HpAt H' b {x with sp:={x.sp with mem:=m}}:=
 h.withCd f (λi hi=> .inr (hS i hi)) (h.cd.withMem f hS hc)
theorem HpAt.hPtr{H:zW}{b:Blk}{x:Hp}(h:HpAt H b x):hat H ⟨b.h,0,none⟩=some (.pointer (some ⟨b.c,0,none⟩)):=by rw[aU h.h];rfl
theorem HpAt.lt{H:zW}{b:Blk}{x:Hp}(h:HpAt H b x): ∀i,i∈b.all->i<H.size:=by
 intro i hi
 have h1:=bI h.h
 have h2:=bI h.cd.c
 obtain⟨cs,hh,_⟩:=h.cd.sp.sp
 have h3:=bI hh
 have h4:=h.cd.sp.mem.lt
 simp[Blk.all]at hi
 omega

theorem tupb{a:Int}{p q:Bool}(h:p=q):Value.tuple #[.int .i64 a,.bool p]=.tuple #[.int .i64 a,.bool q]:=by rw[h]

inductive View (H:zW):zY->Option (Blk×Hp)->Prop
 | nobody:View H none none
 | empty {a:Addr} (h:hat H a=some (.pointer none)):View H (some a) none
 | real {b:Blk} {x:Hp} (h:HpAt H b x) (ok:SpOK x.sp):View H (some ⟨b.h,0,none⟩) (some (b,x))
def mof:Option (Blk×Hp)->Mem
 | none=>Mem.fresh 0
 | some (_,x)=>x.sp.mem
theorem View.ext{H H':zW}{hv:zY}{o:Option (Blk×Hp)}(V:View H hv o)(e:Ext H H'):View H' hv o:=by
 cases V with
 | nobody=>exact .nobody
 | empty h=>exact .empty (e.hat h)
 | real h ok=>exact .real (h.ext e) ok
theorem jV{k:Int}: ¬(mof none).has k:=λh=>by have:=h.1;have:k< ((0:Nat):Int):=h.2.1;omega
theorem View.word{H:zW}{hv:zY}{o:Option (Blk×Hp)}(V:View H hv o)(a:Int):aM ((mof o).get a):=by
 cases V with
 | nobody=>exact(by decide:aM 0)
 | empty h=>exact(by decide:aM 0)
 | real h ok=>exact(ok.mem.seg _).words _

theorem ke{H:zW}{hv:zY}{o:Option (Blk×Hp)}(V:View H hv o):eR.C hv H (λv H'=>v=.bool o.isNone/\H'=H):=by
 refine HC.via λR hR=>eR.link ?_
 unfold eR.pt
 cases V with
 | nobody=>rw[onPtr_none];exact hR _ _ ⟨rfl,rfl⟩
 | empty h=>rw[onPtr_some];refine⟨_,h,?_⟩;rw[onPtr_none];exact hR _ _ ⟨rfl,rfl⟩
 | real h ok=>rw[onPtr_some];refine⟨_,h.hPtr,?_⟩;rw[onPtr_some];exact hR _ _ ⟨rfl,rfl⟩

def Mem.atW(m:Mem)(w tag kind:Int):Prop:=jN w/\w % 8=tag/\m.has (w / 8 / 64)/\(m.seg (w / 8 / 64).toNat).kind=kind/\w / 8 % 64< (m.seg (w / 8 / 64).toNat).n
instance (m:Mem) (w tag kind:Int):Decidable (m.atW w tag kind):=by unfold Mem.atW;infer_instance
theorem Mem.atW.used{m:Mem}{w tag kind:Int}(h:m.atW w tag kind)(hw:aM w):m.used (w / 8):=⟨by have:=hw.1;omega,h.2.2.1,h.2.2.2.2⟩

theorem mS{H:zW}{hv:zY}{o:Option (Blk×Hp)}{w tag kind:Int}(V:View H hv o)(hw:aM w):
  gG.C hv w tag kind H (λv H'=> ∃a:Int,v=.tuple #[.int .i64 a,.bool (decide ((mof o).atW w tag kind))]/\((mof o).atW w tag kind->a=w / 8)/\Ext H H'):=by
 refine HC.via λR hR=>gG.link ?_
 unfold gG.pt zq
 refine HC.mono (lW hw) ?_
 rintro _ H1 ⟨rfl,e1⟩
 have hv': ∃(a:Int) (p:Bool),(if(w % 8=1\/w % 8=2\/w % 8=3\/w % 8=6)/\w / 8<65536 then Value.tuple #[.int .i64 (w / 8),.bool true]else .tuple #[.int .i64 0,.bool false])=.tuple #[.int .i64 a,.bool p]/\((jN w/\p=true/\a=w / 8)\/(¬jN w/\p=false)):=by
  by_cases hh:(w % 8=1\/w % 8=2\/w % 8=3\/w % 8=6)/\w / 8<65536
  ·rw[if_pos hh];exact⟨_,_,rfl,.inl ⟨hh,rfl,rfl⟩⟩
  ·rw[if_neg hh];exact⟨_,_,rfl,.inr ⟨hh,rfl⟩⟩
 obtain⟨a,p,hv',hd⟩:=hv'
 refine⟨a,p,hv',?_⟩
 refine HC.mono (ke (V.ext e1)) ?_
 rintro _ H2 ⟨rfl,rfl⟩
 refine⟨_,rfl,?_⟩
 have no: ∀(a:Int) H',¬(mof o).atW w tag kind->Ext H H'->R (.tuple #[.int .i64 a,.bool false]) H':=λa H' hn e=>hR _ _ ⟨a,by rw[zJ hn],λh=>absurd h hn,e⟩
 cases V with
 | nobody=>rw[if_pos (show(none:Option (Blk×Hp)).isNone=true from rfl)];exact no _ _ (λh=>jV h.2.2.1) e1
 | empty h=>rw[if_pos (show(none:Option (Blk×Hp)).isNone=true from rfl)];exact no _ _ (λh=>jV h.2.2.1) e1
 | @real b x h ok=>
  rw[if_neg (show ¬(some (b,x)).isNone=true from Bool.false_ne_true)]
  rcases hd with⟨ha,rfl,rfl⟩ | ⟨ha,rfl⟩
  case inr=>rw[if_neg (by decide)];exact no _ _ (λh=>ha h.1) e1
  rw[if_pos rfl]
  refine HC.mono (jh hw) ?_
  rintro _ H3 ⟨rfl,e3⟩
  refine⟨_,rfl,?_⟩
  have e13:=e1.trans e3
  by_cases ht:w % 8=tag
  case neg=>rw[if_neg ht];exact no _ _ (λh=>ht h.2.1) e13
  rw[if_pos ht]
  have h3:=h.ext e13
  have hw8:w / 8<65536:=ha.2
  have hw0:0<=w / 8:=by have:=hw.1;omega
  refine⟨_,rfl,_,h3.hPtr,_,rfl,_,h3.cd.cPtr,_,rfl,_,h3.cd.sp.memPtr,?_⟩
  rw[ic hw0,w64 (n:=w / 8 / 64) (by omega),gP hw0]
  refine HC.mono (jE h3.cd.sp.mem) ?_
  rintro _ H4 ⟨rfl,e4⟩
  show∃a b c d e f g q,_/\_
  have hm:mof (some (b,x))=x.sp.mem:=rfl
  rw[hm]at no hR
  by_cases hhas:x.sp.mem.has (w / 8 / 64)
  ·rw[if_pos hhas,zQ hhas]
   generalize hsg:x.sp.mem.seg (w / 8 / 64).toNat=sg at*
   refine⟨_,_,_,_,_,_,_,_,rfl,λb1 H5 hb hH5=>?_⟩
   obtain⟨hc,hs⟩:=boxed (vs:=[.int .i64 sg.gen,.int .i64 sg.kind,.int .i64 sg.n,.int .i64 (sg.cards 0),.int .i64 (sg.cards 1),.int .i64 (sg.cards 2),.int .i64 (sg.cards 3)]) (H1:=H5) (aO hb hH5) rfl rfl
   refine⟨hc,λH6 hH6=>?_⟩
   obtain⟨hrow,hE⟩:=hs H6 hH6
   have e14:=e13.trans e4
   have e6:Ext H H6:=hE H (e14.trans (Ext.push' hH5)) (by have:=e14.size;omega)
   rw[if_pos rfl]
   refine⟨sg.kind,hrow.2.1,?_⟩
   by_cases hk:sg.kind=kind
   ·rw[if_pos hk]
    refine⟨sg.n,hrow.2.2.1,hR _ _ ⟨_,?_,λ_=>rfl,e6⟩⟩
    refine tupb ?_
    rw[decide_eq_decide]
    unfold Mem.atW
    rw[hsg]
    exact⟨λh=>⟨ha,ht,hhas,hk,h⟩,λh=>h.2.2.2.2⟩
   ·rw[if_neg hk]
    exact no _ _ (λh=>hk (by have:=h.2.2.2.1;rw[hsg]at this;exact this)) e6
  ·rw[if_neg hhas,zJ hhas]
   generalize Seg.none=sg
   refine⟨_,_,_,_,_,_,_,_,rfl,λb1 H5 hb hH5=>?_⟩
   obtain⟨hc,hs⟩:=boxed (vs:=[.int .i64 sg.gen,.int .i64 sg.kind,.int .i64 sg.n,.int .i64 (sg.cards 0),.int .i64 (sg.cards 1),.int .i64 (sg.cards 2),.int .i64 (sg.cards 3)]) (H1:=H5) (aO hb hH5) rfl rfl
   refine⟨hc,λH6 hH6=>?_⟩
   obtain⟨hrow,hE⟩:=hs H6 hH6
   have e14:=e13.trans e4
   have e6:Ext H H6:=hE H (e14.trans (Ext.push' hH5)) (by have:=e14.size;omega)
   rw[if_neg (by decide)]
   exact no _ _ (λh=>hhas h.2.2.1) e6

def jO(x:Int):Prop:=x % 8=5/\(1<=x / 8 % 32/\x / 8 % 32<=13/\x / 256 % 256<=62)
instance (x:Int):Decidable (jO x):=by unfold jO;infer_instance
def hk(x:Int):Int:=x / 8 % 32
def hn(x:Int):Int:=x / 256 % 256
def hm(x:Int):Int:=x / 65536
def rawK(k:Int):Int:=if k=2\/k=3 then 3 else 2
theorem nL{H:zW}{k:Int}:jo.C k H (λv H'=>v=.int .i64 (rawK k)/\H'=H):=by
 refine HC.via λR hR=>jo.link ?_
 unfold jo.pt
 by_cases h:k=2\/k=3
 ·rw[if_pos (by simpa using h)];exact hR _ _ ⟨by unfold rawK;rw[if_pos h],rfl⟩
 ·rw[if_neg (by simpa using h)];exact hR _ _ ⟨by unfold rawK;rw[if_neg h],rfl⟩

def Mem.isObj(m:Mem)(w:Int):Prop:=m.atW w 3 (rawK (hk (m.get (w / 8))))/\jO (m.get (w / 8))/\w / 8 % 64+hn (m.get (w / 8))< (m.seg (w / 8 / 64).toNat).n
instance (m:Mem) (w:Int):Decidable (m.isObj w):=by unfold Mem.isObj;infer_instance
theorem oc{H:zW}{hv:zY}{o:Option (Blk×Hp)}{w:Int}(V:View H hv o)(hw:aM w):
  cH.C hv w H (λv H'=>v=(if(mof o).isObj w then .tuple #[.int .i64 (w / 8),.int .i64 (hk ((mof o).get (w / 8))),.int .i64 (hn ((mof o).get (w / 8))),.int .u64 (hm ((mof o).get (w / 8))),.bool true]
   else .tuple #[.int .i64 0,.int .i64 0,.int .i64 0,.int .u64 0,.bool false])/\Ext H H'):=by
 refine HC.via λR hR=>cH.link ?_
 unfold cH.pt zq
 refine⟨λi H'=>(0<=i/\i<=2)/\Ext H H'/\(1<=i-> ¬((mof o).isObj w/\rawK (hk ((mof o).get (w / 8)))=2))/\(2<=i-> ¬((mof o).isObj w/\rawK (hk ((mof o).get (w / 8)))=3)),λi _=>(2-i).toNat,⟨by omega,Ext.refl _,λh=>by omega,λh=>by omega⟩,?_⟩
 rintro i H1 ⟨hi,e1,n2,n3⟩
 by_cases hlt:i<2
 case neg=>
  rw[if_neg hlt]
  refine hR _ _ ⟨?_,e1⟩
  rw[if_neg]
  intro hO
  by_cases hr:rawK (hk ((mof o).get (w / 8)))=2
  ·exact n2 (by omega) ⟨hO,hr⟩
  ·refine n3 (by omega) ⟨hO,?_⟩
   unfold rawK at hr⊢
   by_cases h:hk ((mof o).get (w / 8))=2\/hk ((mof o).get (w / 8))=3
   ·rw[if_pos h]
   ·rw[if_neg h]at hr;exact absurd rfl hr
 rw[if_pos hlt]
 have hx: ∃x:Int,(#[.int .i64 2,.int .i64 3]:Array Value)[i.toNat]?=some (.int .i64 x)/\((i=0/\x=2)\/(i=1/\x=3)):=by
  have:i=0\/i=1:=by omega
  rcases this with rfl | rfl
  ·exact⟨2,rfl,.inl ⟨rfl,rfl⟩⟩
  ·exact⟨3,rfl,.inr ⟨rfl,rfl⟩⟩
 obtain⟨x,hx,hix⟩:=hx
 refine⟨x,⟨⟨hi.1,hlt⟩,hx⟩,?_⟩
 have V1:=V.ext e1
 rw[w64 (n:=i+1) (by omega)]
 have next: ∀H',Ext H H'-> ¬((mof o).isObj w/\rawK (hk ((mof o).get (w / 8)))=x)->((0<=i+1/\i+1<=2)/\Ext H H'/\(1<=i+1-> ¬((mof o).isObj w/\rawK (hk ((mof o).get (w / 8)))=2))/\(2<=i+1-> ¬((mof o).isObj w/\rawK (hk ((mof o).get (w / 8)))=3)))/\(2-(i+1)).toNat< (2-i).toNat:=by
  intro H' e' hn'
  refine⟨⟨by omega,e',λ_=>?_,λh2=>?_⟩,by omega⟩
  ·rcases hix with⟨rfl,rfl⟩ | ⟨rfl,rfl⟩
   ·exact hn'
   ·exact n2 (by omega)
  ·rcases hix with⟨rfl,rfl⟩ | ⟨rfl,rfl⟩
   ·omega
   ·exact hn'
 refine HC.mono (mS V1 hw) ?_
 rintro _ H2 ⟨a,rfl,ha,e2⟩
 refine⟨_,_,rfl,?_⟩
 have e12:=e1.trans e2
 by_cases hat':(mof o).atW w 3 x
 case neg=>
  rw[if_neg (by simpa using hat')]
  exact next _ e12 (λh=>hat' (by rw[<-h.2];exact h.1.1))
 rw[if_pos (zQ hat'),ha hat']
 have hw0:0<=w / 8:=by have:=hw.1;omega
 have hw8:w / 8<65536:=hat'.1.2
 cases V with
 | nobody=>exact absurd hat'.2.2.1 jV
 | empty h=>exact absurd hat'.2.2.1 jV
 | @real b y h ok=>
  have hme:mof (some (b,y))=y.sp.mem:=rfl
  rw[hme]at*
  have h2:=h.ext e12
  have hu:y.sp.mem.used (w / 8):=hat'.used hw
  refine⟨_,rfl,_,h2.hPtr,_,rfl,_,h2.cd.cPtr,_,rfl,_,h2.cd.sp.memPtr,?_⟩
  refine HC.mono (kd h2.cd.sp.mem ok.mem (by omega)) ?_
  rintro _ H3 ⟨rfl,rfl⟩
  rw[if_pos hu]
  refine⟨_,_,rfl,?_⟩
  have hxw:aM (y.sp.mem.get (w / 8)):=(ok.mem.seg _).words _
  refine HC.mono (oO hxw) ?_
  rintro _ H4 ⟨rfl,e4⟩
  have hv4: ∃(p q r:Int) (d:Bool),(if y.sp.mem.get (w / 8) % 8=5/\(1<=y.sp.mem.get (w / 8) / 8 % 32/\y.sp.mem.get (w / 8) / 8 % 32<=13/\y.sp.mem.get (w / 8) / 256 % 256<=62)then Value.tuple #[.int .i64 (y.sp.mem.get (w / 8) / 8 % 32),.int .i64 (y.sp.mem.get (w / 8) / 256 % 256),.int .u64 (y.sp.mem.get (w / 8) / 65536),.bool true]else .tuple #[.int .i64 0,.int .i64 0,.int .u64 0,.bool false])=.tuple #[.int .i64 p,.int .i64 q,.int .u64 r,.bool d]/\
    ((jO (y.sp.mem.get (w / 8))/\d=true/\p=hk (y.sp.mem.get (w / 8))/\q=hn (y.sp.mem.get (w / 8))/\r=hm (y.sp.mem.get (w / 8)))\/(¬jO (y.sp.mem.get (w / 8))/\d=false)):=by
   by_cases hh:jO (y.sp.mem.get (w / 8))
   ·have hh':y.sp.mem.get (w / 8) % 8=5/\(1<=y.sp.mem.get (w / 8) / 8 % 32/\y.sp.mem.get (w / 8) / 8 % 32<=13/\y.sp.mem.get (w / 8) / 256 % 256<=62):=hh
    rw[if_pos hh'];exact⟨_,_,_,_,rfl,.inl ⟨hh,rfl,rfl,rfl,rfl⟩⟩
   ·have hh': ¬(y.sp.mem.get (w / 8) % 8=5/\(1<=y.sp.mem.get (w / 8) / 8 % 32/\y.sp.mem.get (w / 8) / 8 % 32<=13/\y.sp.mem.get (w / 8) / 256 % 256<=62)):=hh
    rw[if_neg hh'];exact⟨_,_,_,_,rfl,.inr ⟨hh,rfl⟩⟩
  obtain⟨p,q,r,d,hv4,hd4⟩:=hv4
  refine⟨p,q,r,d,hv4,?_⟩
  have h4:=h2.ext e4
  refine⟨_,h4.hPtr,_,rfl,_,h4.cd.cPtr,_,rfl,_,h4.cd.sp.memPtr,?_⟩
  rw[ic hw0,w64 (n:=w / 8 / 64) (by omega),gP hw0]
  refine HC.mono (jE h4.cd.sp.mem) ?_
  rintro _ H5 ⟨rfl,e5⟩
  have hhas:y.sp.mem.has (w / 8 / 64):=hat'.2.2.1
  rw[if_pos hhas]
  have hsn:=(ok.mem.seg (w / 8 / 64).toNat).n
  have hkx:=hat'.2.2.2.1
  have hln:=hat'.2.2.2.2
  generalize hsg:y.sp.mem.seg (w / 8 / 64).toNat=sg at hsn hkx hln⊢
  refine⟨_,_,_,_,_,_,_,_,rfl,λb1 H6 hb hH6=>?_⟩
  obtain⟨hc,hs⟩:=boxed (vs:=[.int .i64 sg.gen,.int .i64 sg.kind,.int .i64 sg.n,.int .i64 (sg.cards 0),.int .i64 (sg.cards 1),.int .i64 (sg.cards 2),.int .i64 (sg.cards 3)]) (H1:=H6) (aO hb hH6) rfl rfl
  refine⟨hc,λH7 hH7=>?_⟩
  obtain⟨hrow,hE⟩:=hs H7 hH7
  have e15:=(e12.trans e4).trans e5
  have e7:Ext H H7:=hE H (e15.trans (Ext.push' hH6)) (by have:=e15.size;omega)
  rcases hd4 with⟨hok,rfl,rfl,rfl,rfl⟩ | ⟨hok,rfl⟩
  case inr=>
   rw[if_neg (by decide)]
   exact next _ e7 (λh=>hok h.1.2.1)
  rw[if_pos rfl]
  refine HC.mono nL ?_
  rintro _ H8 ⟨rfl,rfl⟩
  refine⟨_,rfl,?_⟩
  by_cases hr:rawK (hk (y.sp.mem.get (w / 8)))=x
  case neg=>rw[if_neg hr];exact next _ e7 (λh=>hr h.2)
  rw[if_pos hr]
  refine⟨sg.n,hrow.2.2.1,?_⟩
  have hnb:0<=hn (y.sp.mem.get (w / 8))/\hn (y.sp.mem.get (w / 8))<=255:=by unfold hn;omega
  rw[w64 (n:=w / 8 % 64+hn (y.sp.mem.get (w / 8))) (by omega)]
  by_cases hf:w / 8 % 64+hn (y.sp.mem.get (w / 8))<sg.n
  ·rw[if_pos hf]
   refine hR _ _ ⟨?_,e7⟩
   have hObj:y.sp.mem.isObj w:=⟨by rw[hr];exact hat',hok,by rw[hsg];exact hf⟩
   have hObj':(mof (some (b,y))).isObj w:=hObj
   rw[if_pos hObj'];rfl
  ·rw[if_neg hf]
   exact next _ e7 (λh=>hf (by have h3:w / 8 % 64+hn (y.sp.mem.get (w / 8))< (y.sp.mem.seg (w / 8 / 64).toNat).n:=h.1.2.2;rw[hsg]at h3;exact h3))

def Mem.typ(m:Mem)(w:Int):Int:=if m.isObj w then hk (m.get (w / 8))else 0
def Mem.len(m:Mem)(w:Int):Int:=if m.isObj w then hn (m.get (w / 8))else 0
def Mem.more(m:Mem)(w:Int):Int:=if m.isObj w then hm (m.get (w / 8))else 0
theorem ip{H:zW}{hv:zY}{o:Option (Blk×Hp)}{w:Int}(V:View H hv o)(hw:aM w):
  cH.C hv w H (λv H'=>v=.tuple #[.int .i64 (if(mof o).isObj w then w / 8 else 0),.int .i64 ((mof o).typ w),.int .i64 ((mof o).len w),.int .u64 ((mof o).more w),.bool (decide ((mof o).isObj w))]/\Ext H H'):=by
 refine HC.mono (oc V hw) ?_
 rintro _ H1 ⟨rfl,e⟩
 refine⟨?_,e⟩
 unfold Mem.typ Mem.len Mem.more
 by_cases h:(mof o).isObj w
 ·simp only[if_pos h,zQ h]
 ·simp only[if_neg h,zJ h]

theorem kY{H:zW}{hv:zY}{o:Option (Blk×Hp)}{w:Int}(V:View H hv o)(hw:aM w):
  eQ.C hv w H (λv H'=>v=.int .i64 ((mof o).typ w)/\Ext H H'):=by
 refine HC.via λR hR=>eQ.link ?_
 unfold eQ.pt
 refine HC.mono (ip V hw) ?_
 rintro _ H1 ⟨rfl,e1⟩
 exact⟨_,_,_,_,_,rfl,hR _ _ ⟨rfl,e1⟩⟩
theorem lH{H:zW}{hv:zY}{o:Option (Blk×Hp)}{w:Int}(V:View H hv o)(hw:aM w):
  fO.C hv w H (λv H'=>v=.int .i64 ((mof o).len w)/\Ext H H'):=by
 refine HC.via λR hR=>fO.link ?_
 unfold fO.pt
 refine HC.mono (ip V hw) ?_
 rintro _ H1 ⟨rfl,e1⟩
 exact⟨_,_,_,_,_,rfl,hR _ _ ⟨rfl,e1⟩⟩
theorem kf{H:zW}{hv:zY}{o:Option (Blk×Hp)}{w:Int}(V:View H hv o)(hw:aM w):
  eF.C hv w H (λv H'=>v=.int .u64 ((mof o).more w)/\Ext H H'):=by
 refine HC.via λR hR=>eF.link ?_
 unfold eF.pt
 refine HC.mono (ip V hw) ?_
 rintro _ H1 ⟨rfl,e1⟩
 exact⟨_,_,_,_,_,rfl,hR _ _ ⟨rfl,e1⟩⟩

def Mem.fieldE(m:Mem)(w kind i:Int):Int:=if ¬m.isObj w\/m.typ w≠kind then 3 else if i<0\/m.len w<=i then 4 else 0
theorem Mem.isObj.len_lt{m:Mem}{w:Int}(h:m.isObj w):0<=hn (m.get (w / 8))/\hn (m.get (w / 8))<=62:=by
 have:=h.2.1;unfold jO at this;unfold hn;omega
theorem l0{H:zW}{hv:zY}{o:Option (Blk×Hp)}{w kind i:Int}(V:View H hv o)(hw:aM w)(hi:I64 i):
  fJ.C hv w kind i H (λv H'=>v=.tuple #[.int .i64 (if(mof o).fieldE w kind i=0 then w / 8+1+i else 0),.int .i64 ((mof o).fieldE w kind i)]/\Ext H H'):=by
 refine HC.via λR hR=>fJ.link ?_
 unfold fJ.pt zq
 refine HC.mono (ip V hw) ?_
 rintro _ H1 ⟨rfl,e1⟩
 refine⟨_,_,_,_,_,rfl,?_⟩
 by_cases h1: ¬(mof o).isObj w\/(mof o).typ w≠kind
 ·rw[if_pos (by simpa using h1)]
  have e:(mof o).fieldE w kind i=3:=by unfold Mem.fieldE;rw[if_pos h1]
  rw[e]at hR
  exact hR _ _ ⟨rfl,e1⟩
 rw[if_neg (by simpa using h1)]
 by_cases h2:i<0\/(mof o).len w<=i
 ·rw[if_pos (by simpa using h2)]
  have e:(mof o).fieldE w kind i=4:=by unfold Mem.fieldE;rw[if_neg h1,if_pos h2]
  rw[e]at hR
  exact hR _ _ ⟨rfl,e1⟩
 rw[if_neg (by simpa using h2)]
 have e:(mof o).fieldE w kind i=0:=by unfold Mem.fieldE;rw[if_neg h1,if_neg h2]
 rw[e]at hR
 have hO:(mof o).isObj w:=Classical.byContradiction λh=>h1 (.inl h)
 have hw8:w / 8<65536:=hO.1.1.2
 have hw0:0<=w / 8:=by have:=hw.1;omega
 have hl:=hO.len_lt
 have hle:(mof o).len w=hn ((mof o).get (w / 8)):=by unfold Mem.len;rw[if_pos hO]
 rw[if_pos hO,w64 (n:=w / 8+1) (by omega),w64 (n:=w / 8+1+i) (by omega)]
 exact hR _ _ ⟨rfl,e1⟩
theorem Mem.isObj.used{m:Mem}{w i:Int}(h:m.isObj w)(hw:aM w)(hn64:(m.seg (w / 8 / 64).toNat).n<=64)(hi:0<=i/\i<m.len w):m.used (w / 8+1+i):=by
 have hw0:0<=w / 8:=by have:=hw.1;omega
 have hle:m.len w=hn (m.get (w / 8)):=by unfold Mem.len;rw[if_pos h]
 have h3:=h.2.2
 have e1:(w / 8+1+i) / 64=w / 8 / 64:=by omega
 have e2:(w / 8+1+i) % 64=w / 8 % 64+1+i:=by omega
 exact⟨by omega,by rw[e1];exact h.1.2.2.1,by rw[e1,e2];omega⟩
theorem View.n64{H:zW}{hv:zY}{o:Option (Blk×Hp)}(V:View H hv o)(k:Nat):((mof o).seg k).n<=64:=by
 cases V with
 | nobody=>exact(by decide:(0:Int)<=64)
 | empty h=>exact(by decide:(0:Int)<=64)
 | real h ok=>exact(ok.mem.seg k).n.2
theorem Mem.fieldE_0{m:Mem}{w kind i:Int}(h:m.fieldE w kind i=0):m.isObj w/\m.typ w=kind/\0<=i/\i<m.len w:=by
 unfold Mem.fieldE at h
 by_cases h1: ¬m.isObj w\/m.typ w≠kind
 ·rw[if_pos h1]at h;cases h
 rw[if_neg h1]at h
 by_cases h2:i<0\/m.len w<=i
 ·rw[if_pos h2]at h;cases h
 ·exact⟨Classical.byContradiction λh=>h1 (.inl h),Classical.byContradiction λh=>h1 (.inr h),by omega,by omega⟩
theorem lI{H:zW}{hv:zY}{o:Option (Blk×Hp)}{w kind i:Int}(V:View H hv o)(hw:aM w)(hi:I64 i):
  fN.C hv w kind i H (λv H'=>v=.tuple #[.int .u64 (if(mof o).fieldE w kind i=0 then(mof o).get (w / 8+1+i)else 0),.int .i64 ((mof o).fieldE w kind i)]/\Ext H H'):=by
 refine HC.via λR hR=>fN.link ?_
 unfold fN.pt
 refine HC.mono (l0 V hw hi) ?_
 rintro _ H1 ⟨rfl,e1⟩
 refine⟨_,_,rfl,?_⟩
 by_cases h0:(mof o).fieldE w kind i=0
 case neg=>rw[if_neg h0];exact hR _ _ ⟨by rw[if_neg h0],e1⟩
 rw[if_pos h0,if_pos h0]
 obtain⟨hO,_,hi0,hi1⟩:=Mem.fieldE_0 h0
 have hu:=hO.used hw (V.n64 _) ⟨hi0,hi1⟩
 cases V with
 | nobody=>exact absurd hO.1.2.2.1 jV
 | empty h=>exact absurd hO.1.2.2.1 jV
 | @real b x h ok=>
  have h1:=h.ext e1
  refine⟨_,rfl,_,h1.hPtr,_,rfl,_,h1.cd.cPtr,_,rfl,_,h1.cd.sp.memPtr,?_⟩
  have hl:=hO.len_lt
  have hw8:w / 8<65536:=hO.1.1.2
  have hle:(mof (some _)).len w=_:=if_pos hO
  refine HC.mono (kd h1.cd.sp.mem ok.mem (by rw[hle]at hi1;omega)) ?_
  rintro _ H2 ⟨rfl,rfl⟩
  have hu':x.sp.mem.used (w / 8+1+i):=hu
  rw[if_pos hu']
  refine⟨_,_,rfl,hR _ _ ⟨?_,e1⟩⟩
  rw[if_pos h0,h0];rfl

def Hp.setMem(x:Hp)(m:Mem):Hp:={x with sp:={x.sp with mem:=m}}
theorem SpOK.withMem{s:Sp}(ok:SpOK s){m:Mem}(hm:cF m)(hh: ∀k,s.mem.has k->m.has k)(hg: ∀k,(m.seg k).gen=(s.mem.seg k).gen/\(m.seg k).kind=(s.mem.seg k).kind):SpOK {s with mem:=m}:=
 ⟨hm,λg k=>by
  rcases ok.cur g k with h | ⟨h1,h2,h3,h4⟩
  ·exact .inl h
  ·exact .inr ⟨h1,hh _ h2,by rw[<-h3];exact(hg _).1,by rw[<-h4];exact(hg _).2⟩⟩
theorem Mem.mark_has{m:Mem}{k c v j:Int}:(m.mark k c v).1.has j ↔ m.has j:=by
 unfold Mem.mark
 split
 ·exact Iff.rfl
 split
 ·exact Iff.rfl
 ·unfold Mem.has
  show(0<=j/\j< (m.limit:Int)/\((m.upd k.toNat ((m.seg k.toNat).mark c.toNat v)).seg j.toNat).taken≠0) ↔ _
  rw[Mem.upd_seg]
  by_cases h:j.toNat=k.toNat
  ·rw[if_pos h,h];rfl
  ·rw[if_neg h]
theorem Mem.mark_seg{m:Mem}{k c v:Int}(j:Nat):((m.mark k c v).1.seg j).gen=(m.seg j).gen/\((m.mark k c v).1.seg j).kind=(m.seg j).kind/\((m.mark k c v).1.seg j).n=(m.seg j).n/\((m.mark k c v).1.seg j).words=(m.seg j).words:=by
 unfold Mem.mark
 split
 ·exact⟨rfl,rfl,rfl,rfl⟩
 split
 ·exact⟨rfl,rfl,rfl,rfl⟩
 ·show((m.upd k.toNat ((m.seg k.toNat).mark c.toNat v)).seg j).gen=_/\((m.upd k.toNat ((m.seg k.toNat).mark c.toNat v)).seg j).kind=_/\((m.upd k.toNat ((m.seg k.toNat).mark c.toNat v)).seg j).n=_/\((m.upd k.toNat ((m.seg k.toNat).mark c.toNat v)).seg j).words=_
  rw[Mem.upd_seg]
  by_cases h:j=k.toNat
  ·rw[if_pos h,h];exact⟨rfl,rfl,rfl,rfl⟩
  ·rw[if_neg h];exact⟨rfl,rfl,rfl,rfl⟩
theorem Mem.set_seg{m:Mem}{a w:Int}(j:Nat):((m.set a w).seg j).gen=(m.seg j).gen/\((m.set a w).seg j).kind=(m.seg j).kind/\((m.set a w).seg j).n=(m.seg j).n:=by
 unfold Mem.set
 rw[Mem.upd_seg]
 by_cases h:j=(a / 64).toNat
 ·rw[if_pos h,h];exact⟨rfl,rfl,rfl⟩
 ·rw[if_neg h];exact⟨rfl,rfl,rfl⟩
theorem cF.store{m:Mem}(ok:cF m)(a:Int){w:Int}(hw:aM w):cF (m.store a w).1:=by
 unfold Mem.store
 split
 ·exact(ok.set a hw).mark _ _ _
 ·exact ok
theorem Mem.store_seg{m:Mem}{a w:Int}(j:Nat):((m.store a w).1.seg j).gen=(m.seg j).gen/\((m.store a w).1.seg j).kind=(m.seg j).kind/\((m.store a w).1.seg j).n=(m.seg j).n:=by
 unfold Mem.store
 split
 ·have h1:=Mem.mark_seg (m:=m.set a w) (k:=a / 64) (c:=a % 64 / 16) (v:=(m.set a w).younger ((m.set a w).seg (a / 64).toNat) w (((m.set a w).seg (a / 64).toNat).cards (a % 64 / 16).toNat)) j
  have h2:=Mem.set_seg (m:=m) (a:=a) (w:=w) j
  exact⟨h1.1.trans h2.1,h1.2.1.trans h2.2.1,h1.2.2.1.trans h2.2.2⟩
 ·exact⟨rfl,rfl,rfl⟩
theorem Mem.store_has{m:Mem}{a w k:Int}:(m.store a w).1.has k ↔ m.has k:=by
 unfold Mem.store
 split
 ·exact Mem.mark_has.trans Mem.set_has
 ·exact Iff.rfl
theorem SpOK.store{s:Sp}(ok:SpOK s)(a:Int){w:Int}(hw:aM w):SpOK {s with mem:=(s.mem.store a w).1}:=
 ok.withMem (ok.mem.store a hw) (λk h=>Mem.store_has.2 h) (λk=>⟨(Mem.store_seg k).1,(Mem.store_seg k).2.1⟩)

def setO(o:Option (Blk×Hp))(w kind i v:Int):Option (Blk×Hp):=
 match o with
 | none=>none
 | some (b,x)=>some (b,x.setMem (if x.sp.mem.fieldE w kind i=0 then(x.sp.mem.store (w / 8+1+i) v).1 else x.sp.mem))
def setE(o:Option (Blk×Hp))(w kind i v:Int):Int:=if(mof o).fieldE w kind i=0 then((mof o).store (w / 8+1+i) v).2 else(mof o).fieldE w kind i
def own(o:Option (Blk×Hp)):List Nat:=match o with | none=> [] | some (b,_)=> [b.sp,b.m,b.s]
theorem qS{H:zW}{hv:zY}{o:Option (Blk×Hp)}{w kind i v:Int}(V:View H hv o)(hw:aM w)(hi:I64 i)(hv':aM v):
  gS.C hv w kind i v H (λu H'=>u=.int .i64 (setE o w kind i v)/\View H' hv (setO o w kind i v)/\Fr (own o) H H'):=by
 refine HC.via λR hR=>gS.link ?_
 unfold gS.pt
 refine HC.mono (l0 V hw hi) ?_
 rintro _ H1 ⟨rfl,e1⟩
 refine⟨_,_,rfl,?_⟩
 by_cases h0:(mof o).fieldE w kind i=0
 case neg=>
  rw[if_neg h0]
  have e:setE o w kind i v=(mof o).fieldE w kind i:=by unfold setE;rw[if_neg h0]
  have e2:setO o w kind i v=o:=by
   unfold setO
   match o,h0 with
   | none,_=>rfl
   | some (b,x),h0=>
    have h0': ¬x.sp.mem.fieldE w kind i=0:=h0
    simp only;rw[if_neg h0'];rfl
  rw[e,e2]at hR
  exact hR _ _ ⟨rfl,V.ext e1,e1.fr⟩
 rw[if_pos h0,if_pos h0]
 obtain⟨hO,_,hi0,hi1⟩:=Mem.fieldE_0 h0
 cases V with
 | nobody=>exact absurd hO.1.2.2.1 jV
 | empty h=>exact absurd hO.1.2.2.1 jV
 | @real b x h ok=>
  have h1:=h.ext e1
  have hl:=hO.len_lt
  have hw8:w / 8<65536:=hO.1.1.2
  have hw0:0<=w / 8:=by have:=hw.1;omega
  have hle:(mof (some (b,x))).len w=_:=if_pos hO
  refine⟨_,rfl,_,h1.hPtr,?_⟩
  refine HC.mono (lq h1.cd ok ⟨by omega,by rw[hle]at hi1;omega⟩ hv') ?_
  rintro _ H2 ⟨rfl,hc2,f2⟩
  refine⟨_,rfl,hR _ _ ⟨?_,?_,?_⟩⟩
  ·unfold setE;rw[if_pos h0];rfl
  ·have h0':x.sp.mem.fieldE w kind i=0:=h0
   have e2:setO (some (b,x)) w kind i v=some (b,x.setMem (x.sp.mem.store (w / 8+1+i) v).1):=by unfold setO;simp only;rw[if_pos h0']
   rw[e2]
   exact .real (h1.withCd f2 (λj hj=>by simp at hj;omega) hc2) (ok.store _ hv')
  ·exact(e1.fr (S:=own (some (b,x)))).trans (f2.mono (λj hj _=>by simp at hj;simp[own];omega))
theorem View.len_bd{H:zW}{hv:zY}{o:Option (Blk×Hp)}(V:View H hv o)(w:Int):0<=(mof o).len w/\(mof o).len w<=62:=by
 unfold Mem.len
 by_cases h:(mof o).isObj w
 ·rw[if_pos h];exact h.len_lt
 ·rw[if_neg h];omega

theorem cY.ext{H H':zW}{p:zY}{xs:List Value}(h:cY H p xs)(e:Ext H H'):cY H' p xs:=by
 cases p with
 | none=>exact h
 | some a=>exact e.rowAt h

theorem nM{H:zW}{limit:Int}(hl:I64 limit):
  jn.C limit H (λv H'=>(¬(8<=limit/\limit<=1024)/\v=.tuple #[.pointer none,.int .i64 1]/\Ext H H')\/
   ((8<=limit/\limit<=1024)/\ ∃(b:Blk) (x:Hp),v=.tuple #[.pointer (some ⟨b.h,0,none⟩),.int .i64 0]/\View H' (some ⟨b.h,0,none⟩) (some (b,x))/\x=⟨⟨Mem.fresh limit.toNat,λ_ _=>0⟩,.slice none 0 0,.slice none 0 0,0⟩/\Ext H H'/\(∀i,i∈b.all->H.size<=i))):=by
 refine HC.via λR hR=>jn.link ?_
 unfold jn.pt
 refine HC.mono (qa hl) ?_
 rintro _ H1 (⟨hn,rfl,e1⟩ | ⟨hy,b,rfl,hs,e1,h1,h2,h3,h4⟩)
 ·refine⟨_,_,rfl,?_⟩
  rw[if_neg (by decide)]
  exact hR _ _ (.inl ⟨hn,rfl,e1⟩)
 ·refine⟨_,_,rfl,?_⟩
  rw[if_pos rfl]
  intro b1 H2 hb hH2
  have hlt:b.c<H1.size:=bI hs.c
  have hs2:=hs.ext (Ext.push' hH2)
  refine hR _ _ (.inr ⟨hy,{b with h:=b1},_,rfl,.real ⟨⟨⟨hs2.sp.mem,hs2.sp.ne,hs2.sp.sp⟩,hs2.ne,hs2.c⟩,⟨by show b1≠b.c;omega,by show b1≠b.sp;omega,by show b1≠b.m;omega,by show b1≠b.s;omega⟩,aO hb hH2⟩ (p8 ⟨by omega,by omega⟩),rfl,e1.trans (Ext.push' hH2),λi hi=>?_⟩)
  simp[Blk.all]at hi
  have:=e1.size
  omega

abbrev wvs(ws:List Int):List Value:=ws.map (Value.int .u64)
theorem gM: ∀ws:List Int,gF (wvs ws)=true
 | []=>rfl
 | w::ws=>by show(true && gF (wvs ws))=true;rw[gM ws];rfl

structure Grown (m m':Mem) (a n g k:Int):Prop where
 limit:m'.limit=m.limit
 addr:0<=a/\a / 64<m.limit/\a % 64+n<=64
 new:(m'.seg (a / 64).toNat).taken≠0/\(m'.seg (a / 64).toNat).gen=g/\(m'.seg (a / 64).toNat).kind=k/\(m'.seg (a / 64).toNat).n=a % 64+n
 old:(m.seg (a / 64).toNat).taken≠0->(m.seg (a / 64).toNat).gen=g/\(m.seg (a / 64).toNat).kind=k/\(m.seg (a / 64).toNat).n=a % 64/\(m'.seg (a / 64).toNat).words=(m.seg (a / 64).toNat).words/\(m'.seg (a / 64).toNat).cards=(m.seg (a / 64).toNat).cards/\(m'.seg (a / 64).toNat).taken=(m.seg (a / 64).toNat).taken
 fresh:(m.seg (a / 64).toNat).taken=0->a % 64=0
 others: ∀i,i≠(a / 64).toNat->m'.seg i=m.seg i
 free:m.free-1<=m'.free
 count:m'.count<=m.count+1
theorem Mem.bump_ok{m:Mem}(ok:cF m){k d:Int}(h:(m.bump k d).2.2=0):m.has k/\1<=d/\(m.seg k.toNat).n+d<=64/\m.bump k d=(m.upd k.toNat ((m.seg k.toNat).bump d),k*64+(m.seg k.toNat).n,0):=by
 unfold Mem.bump at*
 by_cases hk:m.has k
 case neg=>rw[if_pos hk]at h;exact absurd h (by show ¬((19:Int)=0);decide)
 rw[if_neg (λhh=>hh hk)]at h⊢
 by_cases hd:d<1
 ·rw[if_pos hd]at h;exact absurd h (by show ¬((1:Int)=0);decide)
 rw[if_neg hd]at h⊢
 by_cases hf:64-(m.seg k.toNat).n<d
 ·rw[if_pos hf]at h;exact absurd h (by show ¬((2:Int)=0);decide)
 rw[if_neg hf]at h⊢
 exact⟨hk,by omega,by omega,rfl⟩
theorem Mem.bump_can{m:Mem}{k d:Int}(hk:m.has k)(hd:1<=d)(hf:(m.seg k.toNat).n+d<=64):(m.bump k d).2.2=0:=by
 unfold Mem.bump
 rw[if_neg (λhh=>hh hk),if_neg (by omega),if_neg (by omega)]

theorem Sp.alloc_ok{s:Sp}(ok:SpOK s){g k n:Int}(h:(s.alloc g k n).2.2=0):SpOK (s.alloc g k n).1/\Grown s.mem (s.alloc g k n).1.mem (s.alloc g k n).2.1 n g k:=by
 have hlim:=ok.mem.lim
 unfold Sp.alloc at*
 by_cases hm:may g k n
 case neg=>rw[if_pos hm]at h;exact absurd h (by show ¬((1:Int)=0);decide)
 rw[if_neg (λhh=>hh hm)]at h⊢
 have hg:=hm.1
 have hk:0<=k/\k<=3:=by have:=hm.2;omega
 have hn:1<=n/\n<=63:=by have:=hm.2;omega
 by_cases hc:s.cur g.toNat k.toNat≠0/\(s.mem.bump (s.cur g.toNat k.toNat-1) n).2.2=0
 ·rw[if_pos hc]at h⊢
  obtain⟨hhas,hd,hf,he⟩:=Mem.bump_ok ok.mem hc.2
  rcases ok.cur g.toNat k.toNat with h0 | ⟨h1,h2,h3,h4⟩
  ·exact absurd h0 hc.1
  generalize hj:s.cur g.toNat k.toNat-1=j at*
  have hsn:=(ok.mem.seg j.toNat).n
  have j0:=h2.1
  have e1:(j*64+(s.mem.seg j.toNat).n) / 64=j:=by omega
  have e2:(j*64+(s.mem.seg j.toNat).n) % 64=(s.mem.seg j.toNat).n:=by omega
  have hmb:=ok.mem.bump j n
  rw[he]at hmb⊢
  refine⟨?_,?_⟩
  ·refine ok.withMem hmb (λi hi=>⟨hi.1,hi.2.1,?_⟩) (λi=>?_)
   ·rw[Mem.upd_seg]
    by_cases e:i.toNat=j.toNat
    ·rw[if_pos e];exact h2.2.2
    ·rw[if_neg e];exact hi.2.2
   ·rw[Mem.upd_seg]
    by_cases e:i=j.toNat
    ·rw[if_pos e,e];exact⟨rfl,rfl⟩
    ·rw[if_neg e];exact⟨rfl,rfl⟩
  ·refine⟨rfl,⟨by show 0<=j*64+(s.mem.seg j.toNat).n;omega,by show(j*64+(s.mem.seg j.toNat).n) / 64<_;rw[e1];exact h2.2.1,by show(j*64+(s.mem.seg j.toNat).n) % 64+n<=64;rw[e2];exact hf⟩,?_,?_,?_,?_,by show _<=s.mem.free;omega,by show s.mem.count<=_;omega⟩<;>simp only[e1,e2]
   ·rw[Mem.upd_same];exact⟨h2.2.2,by rw[show((s.mem.seg j.toNat).bump n).gen=_ from h3];omega,by rw[show((s.mem.seg j.toNat).bump n).kind=_ from h4];omega,rfl⟩
   ·intro _;rw[Mem.upd_same];refine⟨by rw[h3];omega,by rw[h4];omega,?_⟩;first | exact⟨rfl,rfl,rfl,rfl⟩ | exact⟨trivial,rfl,rfl,rfl⟩
   ·intro h0;exact absurd h0 h2.2.2
   ·intro i hi;rw[Mem.upd_other _ _ hi]
 rw[if_neg hc]at h⊢
 by_cases ht:(s.mem.take g k).2.2=0
 case neg=>rw[if_neg ht]at h;exact absurd h ht
 rw[if_pos ht]at h⊢
 have hok:=ok.mem.take g k
 have hte:s.mem.take g k=({s.mem with count:=s.mem.count+1,free:=s.mem.free-1}.upd s.mem.first (Seg.new g k (s.mem.count+1)),(s.mem.first:Int),0)/\s.mem.free≠0:=by
  unfold Mem.take at ht⊢
  rw[if_neg (by omega)]at ht⊢
  by_cases hf:s.mem.free=0
  ·rw[if_pos hf]at ht;exact absurd ht (by show ¬((2:Int)=0);decide)
  ·rw[if_neg hf];exact⟨rfl,hf⟩
 obtain⟨hte,hfree⟩:=hte
 obtain⟨hf1,hf0⟩:=Mem.first_spec ok.mem hfree
 rw[hte]at h hok⊢
 generalize hm1:({s.mem with count:=s.mem.count+1,free:=s.mem.free-1}:Mem).upd s.mem.first (Seg.new g k (s.mem.count+1))=m1 at*
 simp only at h hok⊢
 have hcnt:=ok.mem.count
 have hsf:m1.seg s.mem.first=Seg.new g k (s.mem.count+1):=by rw[<-hm1,Mem.upd_same]
 have hso: ∀i,i≠s.mem.first->m1.seg i=s.mem.seg i:=λi hi=>by rw[<-hm1,Mem.upd_other _ _ hi]
 have hl1:m1.limit=s.mem.limit:=by rw[<-hm1];rfl
 have hfr1:m1.free=s.mem.free-1:=by rw[<-hm1];rfl
 have hct1:m1.count=s.mem.count+1:=by rw[<-hm1];rfl
 obtain⟨hhas,hd,hf,he⟩:=Mem.bump_ok hok h
 have en:((s.mem.first:Int)).toNat=s.mem.first:=by omega
 rw[en,hsf]at he hf
 have hn0:(Seg.new g k (s.mem.count+1)).n=0:=rfl
 rw[hn0]at he hf
 have hmb:=hok.bump s.mem.first n
 rw[he]at hmb⊢
 have e1:((s.mem.first:Int)*64+0) / 64=s.mem.first:=by omega
 have e2:((s.mem.first:Int)*64+0) % 64=0:=by omega
 refine⟨⟨hmb,λi j=>?_⟩,?_⟩
 ·show(s.setCur g.toNat k.toNat ((s.mem.first:Int)+1)).cur i j=0\/_
  simp only[Sp.setCur]
  by_cases hij:i=g.toNat/\j=k.toNat
  ·rw[if_pos hij]
   refine .inr ⟨by omega,⟨by omega,by rw[Mem.upd_limit,hl1];omega,?_⟩,?_,?_⟩
   ·rw[show((s.mem.first:Int)+1-1).toNat=s.mem.first by omega,Mem.upd_same];show s.mem.count+1≠0;omega
   ·rw[show((s.mem.first:Int)+1-1).toNat=s.mem.first by omega,Mem.upd_same];show g=_;omega
   ·rw[show((s.mem.first:Int)+1-1).toNat=s.mem.first by omega,Mem.upd_same];show k=_;omega
  ·rw[if_neg hij]
   rcases ok.cur i j with h0 | ⟨h1,h2,h3,h4⟩
   ·exact .inl h0
   ·have hne:(s.cur i j-1).toNat≠s.mem.first:=λe=>h2.2.2 (by rw[e];exact hf0)
    refine .inr ⟨h1,⟨h2.1,by rw[Mem.upd_limit,hl1];exact h2.2.1,?_⟩,?_,?_⟩
    ·rw[Mem.upd_other _ _ hne,hso _ hne];exact h2.2.2
    ·rw[Mem.upd_other _ _ hne,hso _ hne];exact h3
    ·rw[Mem.upd_other _ _ hne,hso _ hne];exact h4
 ·refine⟨by show m1.limit=_;exact hl1,⟨by show 0<=(s.mem.first:Int)*64+0;omega,by show((s.mem.first:Int)*64+0) / 64<_;rw[e1];omega,by show((s.mem.first:Int)*64+0) % 64+n<=64;rw[e2];omega⟩,?_,?_,?_,?_,by show _<=m1.free;omega,by show m1.count<=_;omega⟩<;>simp only[e1,e2,en]
  ·rw[Mem.upd_same];exact⟨by show s.mem.count+1≠0;omega,rfl,rfl,rfl⟩
  ·intro h0;exact absurd hf0 h0
  ·intro _;trivial
  ·intro i hi;rw[Mem.upd_other _ _ hi,hso _ hi]
theorem Sp.alloc_can{s:Sp}(ok:SpOK s){g k n:Int}(hm:may g k n)(hf:1<=s.mem.free):(s.alloc g k n).2.2=0:=by
 unfold Sp.alloc
 rw[if_neg (λhh=>hh hm)]
 by_cases hc:s.cur g.toNat k.toNat≠0/\(s.mem.bump (s.cur g.toNat k.toNat-1) n).2.2=0
 ·rw[if_pos hc]
 rw[if_neg hc]
 have hg:=hm.1
 have hk:0<=k/\k<=3:=by have:=hm.2;omega
 have hn:1<=n/\n<=63:=by have:=hm.2;omega
 have hcnt:=ok.mem.count
 have hte:s.mem.take g k=({s.mem with count:=s.mem.count+1,free:=s.mem.free-1}.upd s.mem.first (Seg.new g k (s.mem.count+1)),(s.mem.first:Int),0):=by
  unfold Mem.take
  rw[if_neg (by omega),if_neg (by omega)]
 obtain⟨hf1,hf0⟩:=Mem.first_spec ok.mem (by omega:s.mem.free≠0)
 rw[hte,if_pos rfl]
 refine Mem.bump_can ⟨by show(0:Int)<=(s.mem.first:Int);omega,by show(s.mem.first:Int)< (s.mem.limit:Int);omega,?_⟩ hn.1 ?_
 ·show((Mem.upd _ _ _).seg ((s.mem.first:Int)).toNat).taken≠0
  rw[show((s.mem.first:Int)).toNat=s.mem.first by omega,Mem.upd_same];show s.mem.count+1≠0;omega
 ·show((Mem.upd _ _ _).seg ((s.mem.first:Int)).toNat).n+n<=64
  rw[show((s.mem.first:Int)).toNat=s.mem.first by omega,Mem.upd_same];show 0+n<=64;omega
theorem Sp.alloc_fail{s:Sp}(ok:SpOK s){g k n:Int}(h:(s.alloc g k n).2.2≠0):(s.alloc g k n).1=s:=by
 by_cases hm:may g k n
 case neg=>unfold Sp.alloc;rw[if_pos hm]
 by_cases hf:s.mem.free=0
 ·have hg:=hm.1
  have hk:0<=k/\k<=3:=by have:=hm.2;omega
  unfold Sp.alloc at*
  rw[if_neg (λhh=>hh hm)]at h⊢
  by_cases hc:s.cur g.toNat k.toNat≠0/\(s.mem.bump (s.cur g.toNat k.toNat-1) n).2.2=0
  ·rw[if_pos hc]at h;exact absurd rfl h
  rw[if_neg hc]at h⊢
  have hte:s.mem.take g k=(s.mem,0,2):=by unfold Mem.take;rw[if_neg (by omega),if_pos hf]
  rw[hte,if_neg (by decide: ¬((2:Int)=0))]
 ·have:0<=s.mem.free:=by rw[ok.mem.free];omega
  exact absurd (Sp.alloc_can ok hm (by omega)) h

def Mem.sets(m:Mem)(a:Int):List Int->Mem
 | []=>m
 | w::ws=>(if m.used a then m.set a w else m).sets (a+1) ws
theorem Mem.sets_snoc: ∀(ws:List Int) (m:Mem) (a w:Int),m.sets a (ws++[w])=if(m.sets a ws).used (a+ws.length)then(m.sets a ws).set (a+ws.length) w else m.sets a ws
 | [],m,a,w=>by simp[Mem.sets]
 | u::ws,m,a,w=>by
  simp only[List.cons_append,Mem.sets,List.length_cons]
  rw[Mem.sets_snoc ws,show a+1+(ws.length:Int)=a+((ws.length+1:Nat):Int)by omega]
  rfl
theorem cF.sets: ∀(ws:List Int) {m:Mem} (ok:cF m) (a:Int),(∀w∈ws,aM w)->cF (m.sets a ws)
 | [],m,ok,a,_=>ok
 | w::ws,m,ok,a,h=>by
  simp only[Mem.sets]
  refine cF.sets ws ?_ _ (λu hu=>h u (List.mem_cons_of_mem _ hu))
  split
  ·exact ok.set a (h w List.mem_cons_self)
  ·exact ok
structure hC (m m':Mem):Prop where
 limit:m'.limit=m.limit
 seg: ∀j,(m'.seg j).gen=(m.seg j).gen/\(m'.seg j).kind=(m.seg j).kind/\(m'.seg j).n=(m.seg j).n/\(m'.seg j).taken=(m.seg j).taken/\(m'.seg j).cards=(m.seg j).cards
 free:m'.free=m.free
 count:m'.count=m.count
theorem hC.refl(m:Mem):hC m m:=⟨rfl,λ_=>⟨rfl,rfl,rfl,rfl,rfl⟩,rfl,rfl⟩
theorem hC.trans{a b c:Mem}(h:hC a b)(k:hC b c):hC a c:=
 ⟨k.limit.trans h.limit,λj=>⟨(k.seg j).1.trans (h.seg j).1,(k.seg j).2.1.trans (h.seg j).2.1,(k.seg j).2.2.1.trans (h.seg j).2.2.1,(k.seg j).2.2.2.1.trans (h.seg j).2.2.2.1,(k.seg j).2.2.2.2.trans (h.seg j).2.2.2.2⟩,k.free.trans h.free,k.count.trans h.count⟩
theorem hC.set(m:Mem)(a w:Int):hC m (m.set a w):=⟨rfl,λj=>by
 unfold Mem.set;rw[Mem.upd_seg]
 by_cases h:j=(a / 64).toNat
 ·rw[if_pos h,h];exact⟨rfl,rfl,rfl,rfl,rfl⟩
 ·rw[if_neg h];exact⟨rfl,rfl,rfl,rfl,rfl⟩,rfl,rfl⟩
theorem hC.sets: ∀(ws:List Int) (m:Mem) (a:Int),hC m (m.sets a ws)
 | [],m,a=>hC.refl m
 | w::ws,m,a=>by
  simp only[Mem.sets]
  refine hC.trans ?_ (hC.sets ws _ _)
  split
  ·exact hC.set m a w
  ·exact hC.refl m
theorem hC.has{m m':Mem}(h:hC m m'){k:Int}:m'.has k ↔ m.has k:=by
 unfold Mem.has;rw[h.limit,(h.seg _).2.2.2.1]
theorem hC.used{m m':Mem}(h:hC m m'){a:Int}:m'.used a ↔ m.used a:=by
 unfold Mem.used;rw[h.has,(h.seg _).2.2.1]
theorem Mem.set_get{m:Mem}{a w:Int}(x:Int)(hx:0<=x)(ha:0<=a):(m.set a w).get x=if x=a then w else m.get x:=by
 unfold Mem.get Mem.set
 rw[Mem.upd_seg]
 by_cases h1:(x / 64).toNat=(a / 64).toNat
 ·rw[if_pos h1]
  simp only[Seg.set]
  by_cases h2:(x % 64).toNat=(a % 64).toNat
  ·rw[if_pos h2,if_pos (by omega)]
  ·rw[if_neg h2,if_neg (by intro e;subst e;exact h2 rfl),h1]
 ·rw[if_neg h1,if_neg (by intro e;subst e;exact h1 rfl)]
theorem Mem.sets_get: ∀(ws:List Int) {m:Mem} {a:Int} (x:Int),0<=x->0<=a->(∀i:Nat,i<ws.length->m.used (a+i))->(m.sets a ws).get x=if a<=x/\x<a+ws.length then ws.getD (x-a).toNat 0 else m.get x
 | [],m,a,x,hx,ha,hu=>by simp only[Mem.sets];rw[if_neg (by simp only[List.length_nil];omega)]
 | w::ws,m,a,x,hx,ha,hu=>by
  have h0:m.used a:=by have:=hu 0 (by simp);simpa using this
  simp only[Mem.sets]
  rw[if_pos h0,Mem.sets_get ws x hx (by omega) (λi hi=>(hC.set m a w).used.2 (by have:=hu (i+1) (by simp;omega);rw[show a+1+(i:Int)=a+((i+1:Nat):Int)by omega];exact this))]
  rw[Mem.set_get x hx ha]
  by_cases hxa:x=a
  ·subst hxa
   rw[if_neg (by omega),if_pos rfl,if_pos ⟨by omega,by simp;omega⟩]
   simp
  ·by_cases h1:a+1<=x/\x<a+1+ws.length
   ·rw[if_pos h1,if_pos ⟨by omega,by simp;omega⟩]
    have:(x-a).toNat=(x-(a+1)).toNat+1:=by omega
    rw[this];simp
   ·rw[if_neg h1,if_neg hxa,if_neg (by simp;omega)]

def iy(tag addr:Int):Int×Int:=if ¬(tag=1\/tag=2\/tag=3\/tag=6)then(0,1)else if 0<=addr/\addr<65536 then(addr*8+tag,0)else(0,18)
def Sp.put(s:Sp)(kind tag:Int)(ws:List Int):Sp×Int×Int:=
 if(s.alloc 0 kind ws.length).2.2=0 then({(s.alloc 0 kind ws.length).1 with mem:=(s.alloc 0 kind ws.length).1.mem.sets (s.alloc 0 kind ws.length).2.1 ws},iy tag (s.alloc 0 kind ws.length).2.1)
 else(s,0,(s.alloc 0 kind ws.length).2.2)
def putO(o:Option (Blk×Hp))(kind tag:Int)(ws:List Int):Option (Blk×Hp):=
 match o with
 | none=>none
 | some (b,x)=>some (b,{x with sp:=(x.sp.put kind tag ws).1})
def putR(o:Option (Blk×Hp))(kind tag:Int)(ws:List Int):Int×Int:=
 match o with
 | none=>(0,2)
 | some (_,x)=>(x.sp.put kind tag ws).2
def l3(o:Option (Blk×Hp)):Prop:=(mof o).count<4611686018427387904
theorem SpOK.sets{s:Sp}(ok:SpOK s)(a:Int){ws:List Int}(hw: ∀w∈ws,aM w):SpOK {s with mem:=s.mem.sets a ws}:=
 ok.withMem (cF.sets ws ok.mem a hw) (λk h=>(hC.sets ws s.mem a).has.2 h) (λk=>⟨((hC.sets ws s.mem a).seg k).1,((hC.sets ws s.mem a).seg k).2.1⟩)

theorem lJ{H:zW}{hv lB:zY}{lN lC:Nat}{o:Option (Blk×Hp)}{kind tag:Int}{ws:List Int}(V:View H hv o)(hsrc:cY H lB (wvs ws))(hlen:lN=ws.length)(hw: ∀w∈ws,aM w)
  (hd: ∀i,i∈blks lB->i ∉ own o) (hc:l3 o) (ht:I64 tag) (hl:ws.length<=1000):
  ge.C hv kind tag lB lN lC H (λv H'=>v=.tuple #[.int .u64 (putR o kind tag ws).1,.int .i64 (putR o kind tag ws).2]/\View H' hv (putO o kind tag ws)/\Fr (own o) H H'):=by
 subst hlen
 refine HC.via λR hR=>ge.link ?_
 unfold ge.pt zq
 refine HC.mono (ke V) ?_
 rintro _ H1 ⟨rfl,rfl⟩
 refine⟨_,rfl,?_⟩
 cases V with
 | nobody=>rw[if_pos (show(none:Option (Blk×Hp)).isNone=true from rfl)];exact hR _ _ ⟨rfl,.nobody,Fr.refl _ _⟩
 | empty h=>rw[if_pos (show(none:Option (Blk×Hp)).isNone=true from rfl)];exact hR _ _ ⟨rfl,.empty h,Fr.refl _ _⟩
 | @real b x h ok=>
  rw[if_neg (show ¬(some (b,x)).isNone=true from Bool.false_ne_true)]
  refine⟨_,rfl,_,h.hPtr,_,rfl,_,h.cd.cPtr,?_⟩
  refine HC.mono (nz h.cd.sp ok hc) ?_
  rintro _ H2 ⟨rfl,hs2,f2⟩
  refine⟨_,_,rfl,?_⟩
  have h2:=h.withSp f2 (λi hi=>by simp at hi;omega) hs2
  have f2':Fr (own (some (b,x))) H1 H2:=f2.mono (λi hi _=>by simp at hi;simp[own];omega)
  by_cases ha:(x.sp.alloc 0 kind ws.length).2.2=0
  case neg=>
   rw[if_neg ha]
   have e:x.sp.put kind tag ws=(x.sp,0,(x.sp.alloc 0 kind ws.length).2.2):=by unfold Sp.put;rw[if_neg ha]
   have e1:putR (some (b,x)) kind tag ws=(0,(x.sp.alloc 0 kind ws.length).2.2):=by show(x.sp.put kind tag ws).2=_;rw[e]
   have e2:putO (some (b,x)) kind tag ws=some (b,x):=by show some (b,{x with sp:=(x.sp.put kind tag ws).1})=_;rw[e]
   rw[e1,e2]at hR
   rw[Sp.alloc_fail ok ha]at h2
   exact hR _ _ ⟨rfl,.real h2 ok,f2'⟩
  rw[if_pos ha]
  obtain⟨ok2,gr⟩:=Sp.alloc_ok ok ha
  have e:x.sp.put kind tag ws=({(x.sp.alloc 0 kind ws.length).1 with mem:=(x.sp.alloc 0 kind ws.length).1.mem.sets (x.sp.alloc 0 kind ws.length).2.1 ws},iy tag (x.sp.alloc 0 kind ws.length).2.1):=by unfold Sp.put;rw[if_pos ha]
  have e1:putR (some (b,x)) kind tag ws=iy tag (x.sp.alloc 0 kind ws.length).2.1:=by show(x.sp.put kind tag ws).2=_;rw[e]
  have e2:putO (some (b,x)) kind tag ws=some (b,{x with sp:={(x.sp.alloc 0 kind ws.length).1 with mem:=(x.sp.alloc 0 kind ws.length).1.mem.sets (x.sp.alloc 0 kind ws.length).2.1 ws}}):=by show some (b,{x with sp:=(x.sp.put kind tag ws).1})=_;rw[e]
  rw[e1,e2]at hR
  generalize hs':(x.sp.alloc 0 kind ws.length).1=s' at*
  generalize ha':(x.sp.alloc 0 kind ws.length).2.1=a at*
  have hlim:=ok.mem.lim
  have a0:=gr.addr
  refine⟨λi H'=>(0<=i/\i<=ws.length)/\HpAt H' b {x with sp:={s' with mem:=s'.mem.sets a (ws.take i.toNat)}}/\Fr (own (some (b,x))) H1 H',λi _=>(ws.length-i).toNat,⟨by omega,by simpa[Mem.sets]using h2,f2'⟩,?_⟩
  rintro i H3 ⟨hi,h3,f3⟩
  by_cases hlt:i< (ws.length:Int)
  ·rw[if_pos hlt]
   have hiN:i.toNat<ws.length:=by omega
   have hsrc3:cY H3 lB (wvs ws):=by
    cases lB with
    | none=>exact hsrc
    | some la=>exact f3.rowAt (hd _ (by simp)) hsrc
   cases lB with
   | none=>
    exfalso
    have e:wvs ws=[]:=hsrc
    have:ws.length=0:=by simpa[wvs]using congrArg List.length e
    omega
   | some la=>
    refine⟨la,rfl,⟨hi.1,hlt⟩,ws[i.toNat],?_,?_⟩
    ·have:=gZ (show aG H3 la 0 (wvs ws)from hsrc3) i.toNat (.int .u64 (ws[i.toNat])) (by simp[wvs,hiN])
     rw[Nat.mul_one];rw[Nat.zero_add]at this;exact this
    refine⟨_,h3.hPtr,_,rfl,_,h3.cd.cPtr,_,rfl,_,h3.cd.sp.memPtr,?_⟩
    have hok3:cF (s'.mem.sets a (ws.take i.toNat)):=cF.sets _ ok2.mem a (λw hw'=>hw w (List.mem_of_mem_take hw'))
    rw[w64 (n:=a+i) (by omega),w64 (n:=i+1) (by omega)]
    refine HC.mono (lY h3.cd.sp.mem hok3 (by omega)) ?_
    rintro _ H4 ⟨rfl,hm4,f4⟩
    refine⟨_,rfl,⟨by omega,?_,f3.trans (f4.mono (λj hj _=>by simp at hj;simp[own];omega))⟩,by show((ws.length:Int)-(i+1)).toNat< ((ws.length:Int)-i).toNat;omega⟩
    have h4:=h3.withMem f4 (λj hj=>by simp at hj;omega) hm4
    have et:ws.take (i+1).toNat=ws.take i.toNat++[ws[i.toNat]]:=by
     rw[show(i+1).toNat=i.toNat+1 by omega,List.take_succ_eq_append_getElem hiN]
    have el:((ws.take i.toNat).length:Int)=i:=by rw[List.length_take];omega
    rw[et,Mem.sets_snoc,el]
    exact h4
  ·rw[if_neg hlt]
   have hie:i.toNat=ws.length:=by omega
   rw[hie,List.take_length]at h3
   refine HC.mono (qP ht (by omega)) ?_
   rintro _ H5 ⟨rfl,e5⟩
   have ev:(if ¬(tag=1\/tag=2\/tag=3\/tag=6)then Value.tuple #[.int .u64 0,.int .i64 1]else if 0<=a/\a<65536 then .tuple #[.int .u64 (a*8+tag),.int .i64 0]else .tuple #[.int .u64 0,.int .i64 18])=.tuple #[.int .u64 (iy tag a).1,.int .i64 (iy tag a).2]:=by
    by_cases h1:tag=1\/tag=2\/tag=3\/tag=6
    ·by_cases h2:0<=a/\a<65536
     ·have ea:iy tag a=(a*8+tag,0):=by unfold iy;rw[if_neg (λhh=>hh h1),if_pos h2]
      rw[ea,if_neg (λhh=>hh h1),if_pos h2]
     ·have ea:iy tag a=(0,18):=by unfold iy;rw[if_neg (λhh=>hh h1),if_neg h2]
      rw[ea,if_neg (λhh=>hh h1),if_neg h2]
    ·have ea:iy tag a=(0,1):=by unfold iy;rw[if_pos h1]
     rw[ea,if_pos h1]
   rw[ev]
   exact⟨_,_,rfl,hR _ _ ⟨rfl,.real (h3.ext e5) (ok2.sets a hw),f3.trans e5.fr⟩⟩

def Sp.make(s:Sp)(kind more:Int)(ws:List Int):Sp×Int×Int:=
 if ¬((1<=kind/\kind<=13)/\more<281474976710656)then(s,0,1)
 else if 62<ws.length then(s,0,6)
 else s.put (rawK kind) 3 ((more*65536+ws.length*256+kind*8+5)::ws)
def ii(o:Option (Blk×Hp))(kind more:Int)(ws:List Int):Option (Blk×Hp):=
 if ¬((1<=kind/\kind<=13)/\more<281474976710656)then o
 else if 62<ws.length then o
 else putO o (rawK kind) 3 ((more*65536+ws.length*256+kind*8+5)::ws)
def hZ(o:Option (Blk×Hp))(kind more:Int)(ws:List Int):Int×Int:=
 if ¬((1<=kind/\kind<=13)/\more<281474976710656)then(0,1)
 else if 62<ws.length then(0,6)
 else putR o (rawK kind) 3 ((more*65536+ws.length*256+kind*8+5)::ws)
theorem View.own_lt{H:zW}{hv:zY}{o:Option (Blk×Hp)}(V:View H hv o): ∀i,i∈own o->i<H.size:=by
 cases V with
 | nobody=>intro i hi;simp[own]at hi
 | empty h=>intro i hi;simp[own]at hi
 | real h ok=>intro i hi;exact h.lt i (by simp[own]at hi;simp[Blk.all];omega)
theorem kg{H:zW}{hv lB:zY}{lN lC:Nat}{o:Option (Blk×Hp)}{kind more:Int}{ws:List Int}(V:View H hv o)(hsrc:cY H lB (wvs ws))(hlen:lN=ws.length)(hw: ∀w∈ws,aM w)
  (hk:I64 kind) (hmo:aM more) (hc:l3 o) (hl:ws.length<=1000000):
  dO.C hv kind more lB lN lC H (λv H'=>v=.tuple #[.int .u64 (hZ o kind more ws).1,.int .i64 (hZ o kind more ws).2]/\View H' hv (ii o kind more ws)/\Fr (own o) H H'):=by
 subst hlen
 refine HC.via λR hR=>dO.link ?_
 unfold dO.pt
 refine HC.mono (kP hk (by decide) hmo) ?_
 rintro _ H1 ⟨rfl,e1⟩
 rw[oL]
 refine⟨_,_,rfl,?_⟩
 by_cases h1:(1<=kind/\kind<=13)/\more<281474976710656
 case neg=>
  have h1': ¬((1<=kind/\kind<=13)/\((0:Int)<=0/\(0:Int)<=62)/\more<281474976710656):=λh=>h1 ⟨h.1,h.2.2⟩
  rw[if_neg h1',if_neg (by decide)]
  have e:hZ o kind more ws=(0,1):=by unfold hZ;rw[if_pos h1]
  have e2:ii o kind more ws=o:=by unfold ii;rw[if_pos h1]
  rw[e,e2]at hR
  exact hR _ _ ⟨rfl,V.ext e1,e1.fr⟩
 have h1':(1<=kind/\kind<=13)/\((0:Int)<=0/\(0:Int)<=62)/\more<281474976710656:=⟨h1.1,by decide,h1.2⟩
 rw[if_pos h1',if_pos rfl]
 by_cases h2:62<ws.length
 ·rw[if_pos (by omega)]
  have e:hZ o kind more ws=(0,6):=by unfold hZ;rw[if_neg (λhh=>hh h1),if_pos h2]
  have e2:ii o kind more ws=o:=by unfold ii;rw[if_neg (λhh=>hh h1),if_pos h2]
  rw[e,e2]at hR
  exact hR _ _ ⟨rfl,V.ext e1,e1.fr⟩
 rw[if_neg (by omega)]
 refine HC.mono (kP hk (by omega) hmo) ?_
 rintro _ H2 ⟨rfl,e2⟩
 rw[oL]
 refine⟨_,_,rfl,?_⟩
 have h2':(1<=kind/\kind<=13)/\((0:Int)<=(ws.length:Int)/\(ws.length:Int)<=62)/\more<281474976710656:=⟨h1.1,by omega,h1.2⟩
 rw[if_pos h2']
 refine HC.mono nL ?_
 rintro _ H3 ⟨rfl,rfl⟩
 refine⟨_,rfl,?_⟩
 intro b4 H4 hb4 hH4
 have e12:=e1.trans e2
 have e14:=e12.trans (Ext.push' hH4)
 have g4:=aO hb4 hH4
 have hm0:=hmo.1
 have hsrc4:cY H4 lB (wvs ws):=by
  cases lB with
  | none=>exact hsrc
  | some la=>exact e14.rowAt hsrc
 refine cZ (ys:=wvs ws) (xs:=[.int .u64 (more*65536+ws.length*256+kind*8+5)]) ⟨rfl,_,g4,rfl,Nat.le_refl _,rfl,λj hj=>?_⟩ hsrc4 (by simp[wvs]) (gM ws) rfl (by omega) ?_
 ·have:j=0:=by omega
  subst this;rfl
 intro p5 c5 H5 o5 f5 hb5
 have f5':Ext H H5:=e14.fr_trans f5 (λi hi=>by simp at hi;have:=e12.size;omega)
 have V5:=V.ext f5'
 refine HC.mono (lJ (ws:=(more*65536+ws.length*256+kind*8+5)::ws) V5 o5.src (by simp;omega) (λw hw'=>?_) (λi hi hio=>?_) hc (by decide) (by simp;omega)) ?_
 ·rcases List.mem_cons.1 hw' with rfl | hw'
  ·exact⟨by omega,by omega⟩
  ·exact hw w hw'
 ·have h6:=V.own_lt i hio
  have h7:=e14.size
  have h8:=e12.size
  rcases hb5 i hi with h9 | h9
  ·simp at h9;omega
  ·omega
 rintro _ H6 ⟨rfl,V6,f6⟩
 refine⟨_,_,rfl,?_⟩
 have e:hZ o kind more ws=putR o (rawK kind) 3 ((more*65536+ws.length*256+kind*8+5)::ws):=by unfold hZ;rw[if_neg (λhh=>hh h1),if_neg h2]
 have e2:ii o kind more ws=putO o (rawK kind) 3 ((more*65536+ws.length*256+kind*8+5)::ws):=by unfold ii;rw[if_neg (λhh=>hh h1),if_neg h2]
 rw[e,e2]at hR
 exact hR _ _ ⟨rfl,V6,f5'.fr.trans f6⟩

structure Keep (m m':Mem):Prop where
  limit:m'.limit=m.limit
  used: ∀a,m.used a->m'.used a/\m'.get a=m.get a/\(m'.seg (a / 64).toNat).kind=(m.seg (a / 64).toNat).kind/\(m'.seg (a / 64).toNat).gen=(m.seg (a / 64).toNat).gen/\(m.seg (a / 64).toNat).n<=(m'.seg (a / 64).toNat).n
theorem Keep.trans{a b c:Mem}(h:Keep a b)(k:Keep b c):Keep a c:=
  ⟨k.limit.trans h.limit,λx hx=>by
    obtain⟨h1,h2,h3,h4,h5⟩:=h.used x hx
    obtain⟨k1,k2,k3,k4,k5⟩:=k.used x h1
    exact⟨k1,k2.trans h2,k3.trans h3,k4.trans h4,Int.le_trans h5 k5⟩⟩

structure hF (m:Mem) (w kind more:Int) (ws:List Int):Prop where
  word:aM w
  obj:m.isObj w
  kindEq:hk (m.get (w / 8))=kind
  lenEq:hn (m.get (w / 8))=ws.length
  moreEq:hm (m.get (w / 8))=more
  get: ∀(i:Nat) (h:i<ws.length),m.get (w / 8+1+i)=ws[i]
theorem hF.typ{m:Mem}{w kind more:Int}{ws:List Int}(h:hF m w kind more ws):m.typ w=kind:=by unfold Mem.typ;rw[if_pos h.obj];exact h.kindEq
theorem hF.len{m:Mem}{w kind more:Int}{ws:List Int}(h:hF m w kind more ws):m.len w=ws.length:=by unfold Mem.len;rw[if_pos h.obj];exact h.lenEq
theorem hF.le62{m:Mem}{w kind more:Int}{ws:List Int}(h:hF m w kind more ws):ws.length<=62:=by have:=h.obj.len_lt;rw[h.lenEq]at this;omega
theorem hF.field_in{m:Mem}{w kind more:Int}{ws:List Int}(h:hF m w kind more ws){i:Int}(hi:0<=i/\i<ws.length):m.fieldE w kind i=0:=by
  unfold Mem.fieldE
  rw [if_neg (by intro hh; rcases hh with hh | hh; · exact hh h.obj
                 · exact hh h.typ),if_neg (by rw[h.len];omega)]
theorem hF.field_out{m:Mem}{w kind more:Int}{ws:List Int}(h:hF m w kind more ws){i:Int}(hi:i<0\/(ws.length:Int)<=i):m.fieldE w kind i=4:=by
  unfold Mem.fieldE
  rw [if_neg (by intro hh; rcases hh with hh | hh; · exact hh h.obj
                 · exact hh h.typ),if_pos (by rw[h.len];exact hi)]
theorem nothing{m:Mem}{w kind:Int}(h: ¬m.isObj w)(i:Int):m.fieldE w kind i=3:=by unfold Mem.fieldE;rw[if_pos (.inl h)]
theorem oS{m:Mem}{w:Int}(h: ¬m.isObj w):m.typ w=0:=by unfold Mem.typ;rw[if_neg h]
theorem sZ{m:Mem}{w:Int}(h: ¬w % 8=3): ¬m.isObj w:=λhh=>h hh.1.2.1
theorem hF.usedHead{m:Mem}{w kind more:Int}{ws:List Int}(h:hF m w kind more ws):m.used (w / 8):=h.obj.1.used h.word
theorem hF.usedAt{m:Mem}{w kind more:Int}{ws:List Int}(h:hF m w kind more ws)(hn: ∀k,(m.seg k).n<=64){i:Nat}(hi:i<ws.length):m.used (w / 8+1+i):=
  h.obj.used h.word (hn _) ⟨by omega,by rw[h.len];omega⟩

theorem hF.keep{m m':Mem}{w kind more:Int}{ws:List Int}(h:hF m w kind more ws)(hn: ∀k,(m.seg k).n<=64)(k:Keep m m'):hF m' w kind more ws:=by
  obtain⟨u1,u2,u3,_,u5⟩:=k.used _ h.usedHead
  have ho:=h.obj
  refine⟨h.word,⟨⟨ho.1.1,ho.1.2.1,u1.2.1,?_,u1.2.2⟩,by rw[u2];exact ho.2.1,?_⟩,by rw[u2];exact h.kindEq,by rw[u2];exact h.lenEq,by rw[u2];exact h.moreEq,λi hi=>?_⟩
  · rw[u3,u2];exact ho.1.2.2.2.1
  · rw[u2];have:=ho.2.2;omega
  · rw[(k.used _ (h.usedAt hn hi)).2.1];exact h.get i hi

theorem Grown.lay{m m':Mem}{a g k:Int}{ws:List Int}(gr:Grown m m' a ws.length g k)(ok:cF m):Keep m (m'.sets a ws)/\(∀x,0<=x->(m'.sets a ws).get x=if a<=x/\x<a+ws.length then ws.getD (x-a).toNat 0 else m'.get x)/\(∀i:Nat,i<ws.length->(m'.sets a ws).used (a+i)):=by
  have sm:=hC.sets ws m' a
  obtain⟨a0,a1,a2⟩:=gr.addr
  have hu: ∀i:Nat,i<ws.length->m'.used (a+i):=λi hi=>by
    have e1:(a+i) / 64=a / 64:=by omega
    have e2:(a+i) % 64=a % 64+i:=by omega
    refine⟨by omega,?_,?_⟩
    · rw[e1];exact⟨by omega,by rw[gr.limit];exact a1,gr.new.1⟩
    · rw[e1,e2,gr.new.2.2.2];omega
  have hget:=λx (hx:0<=x)=>Mem.sets_get ws (m:=m') (a:=a) x hx a0 hu
  refine⟨⟨sm.limit.trans gr.limit,λx hx=>?_⟩,hget,λi hi=>sm.used.2 (hu i hi)⟩
  have x0:=hx.1
  have hseg:=sm.seg (x / 64).toNat
  by_cases hj:(x / 64).toNat=(a / 64).toNat
  · have ht:(m.seg (a / 64).toNat).taken≠0:=by rw[<-hj];exact hx.2.1.2.2
    obtain⟨o1,o2,o3,o4,o5,o6⟩:=gr.old ht
    have hxn:=hx.2.2
    rw[hj,o3]at hxn
    have hxa:x<a:=by omega
    refine⟨sm.used.2 ⟨x0,⟨hx.2.1.1,by rw[gr.limit];exact hx.2.1.2.1,by rw[hj,o6];exact ht⟩,by rw[hj,gr.new.2.2.2];omega⟩,?_,?_,?_,?_⟩
    · rw[hget x x0,if_neg (by omega)];unfold Mem.get;rw[hj,o4]
    · rw[hseg.2.1,hj,gr.new.2.2.1,o2]
    · rw[hseg.1,hj,gr.new.2.1,o1]
    · rw[hseg.2.2.1,hj,gr.new.2.2.2,o3];omega
  · have ho:=gr.others _ hj
    refine⟨sm.used.2 ⟨x0,⟨hx.2.1.1,by rw[gr.limit];exact hx.2.1.2.1,by rw[ho];exact hx.2.1.2.2⟩,by rw[ho];exact hx.2.2⟩,?_,?_,?_,?_⟩
    · rw[hget x x0,if_neg (by omega)];unfold Mem.get;rw[ho]
    · rw[hseg.2.1,ho]
    · rw[hseg.1,ho]
    · rw[hseg.2.2.1,ho];omega

theorem Sp.put_ok{s:Sp}(ok:SpOK s){kind tag:Int}{ws:List Int}(hm:may 0 kind ws.length)(ht:tag=1\/tag=2\/tag=3\/tag=6)(hw: ∀w∈ws,aM w)(hf:(s.alloc 0 kind ws.length).2.2=0):
    ∃a:Int,(s.put kind tag ws).2=(a*8+tag,0)/\Grown s.mem (s.alloc 0 kind ws.length).1.mem a ws.length 0 kind/\(s.put kind tag ws).1.mem=(s.alloc 0 kind ws.length).1.mem.sets a ws/\SpOK (s.put kind tag ws).1/\a<65536/\(s.put kind tag ws).1.cur=(s.alloc 0 kind ws.length).1.cur:=by
  obtain⟨ok2,gr⟩:=Sp.alloc_ok ok hf
  have hl:=ok.mem.lim
  obtain⟨a0,a1,a2⟩:=gr.addr
  refine⟨(s.alloc 0 kind ws.length).2.1,?_,gr,?_,?_,by omega,?_⟩
  · unfold Sp.put;rw[if_pos hf];unfold iy;rw[if_neg (λhh=>hh ht),if_pos (by omega)]
  · unfold Sp.put;rw[if_pos hf]
  · unfold Sp.put;rw[if_pos hf];exact ok2.sets _ hw
  · unfold Sp.put;rw[if_pos hf]

structure Made (m m':Mem) (w:Int) (n:Nat):Prop where
  keep:Keep m m'
  free:m.free-1<=m'.free
  count:m'.count<=m.count+1
  fresh: ∀i:Nat,i<=n-> ¬m.used (w / 8+i)

theorem qb{kind more:Int}{n:Nat}(hkd:1<=kind/\kind<=13)(hmo:0<=more/\more<281474976710656)(hn62:n<=62):
    jO (more*65536+n*256+kind*8+5)/\hk (more*65536+n*256+kind*8+5)=kind/\hn (more*65536+n*256+kind*8+5)=n/\hm (more*65536+n*256+kind*8+5)=more:=by
  unfold jO hk hn hm
  refine⟨⟨by omega,by omega⟩,by omega,by omega,by omega⟩

theorem Sp.make_ok0{s:Sp}(ok:SpOK s){kind more:Int}{ws:List Int}(hkd:1<=kind/\kind<=13)(hmo:0<=more/\more<281474976710656)(hl:ws.length<=62)(hw: ∀w∈ws,aM w)(hal:(s.alloc 0 (rawK kind) ((ws.length+1:Nat):Int)).2.2=0):
    (s.make kind more ws).2.2=0/\hF (s.make kind more ws).1.mem (s.make kind more ws).2.1 kind more ws/\SpOK (s.make kind more ws).1/\Made s.mem (s.make kind more ws).1.mem (s.make kind more ws).2.1 ws.length:=by
  have hraw:rawK kind=2\/rawK kind=3:=by unfold rawK;split<;>omega
  generalize hhd:more*65536+ws.length*256+kind*8+5=hd
  have hparts:=qb hkd hmo hl
  rw[hhd]at hparts
  have hhw:aM hd:=⟨by omega,by omega⟩
  have em:s.make kind more ws=s.put (rawK kind) 3 (hd::ws):=by
    unfold Sp.make;rw[if_neg (by intro hh;exact hh ⟨hkd,hmo.2⟩),if_neg (by omega),hhd]
  rw[em]
  have hall: ∀w∈hd::ws,aM w:=λw hw'=>by
    rcases List.mem_cons.1 hw' with rfl | hw'
    · exact hhw
    · exact hw w hw'
  have hmay:may 0 (rawK kind) ((hd::ws).length:Nat):=⟨by omega,.inr ⟨hraw,by simp;omega,by simp;omega⟩⟩
  have hal:(s.alloc 0 (rawK kind) ((hd::ws).length:Nat)).2.2=0:=hal
  obtain⟨a,e1,gr,e2,ok2,a64,_⟩:=Sp.put_ok (tag:=3) ok hmay (by omega) hall hal
  obtain⟨kp,hget,hused⟩:=gr.lay ok.mem
  rw[e1,e2]
  obtain⟨a0,a1,a2⟩:=gr.addr
  have sm:=hC.sets (hd::ws) (s.alloc 0 (rawK kind) ((hd::ws).length:Nat)).1.mem a
  simp only[List.length_cons]at a2
  have ew:(a*8+3) / 8=a:=by omega
  have g0:((s.alloc 0 (rawK kind) ((hd::ws).length:Nat)).1.mem.sets a (hd::ws)).get a=hd:=by
    rw[hget a a0,if_pos ⟨by omega,by simp;omega⟩];simp
  have hu0:=hused 0 (by simp)
  rw[show a+((0:Nat):Int)=a by omega]at hu0
  refine⟨rfl,⟨⟨by omega,by omega⟩,?_,?_,?_,?_,λi hi=>?_⟩,ok2,⟨kp,?_,?_,?_⟩⟩
  · unfold Mem.isObj
    rw[ew,g0,hparts.2.1,hparts.2.2.1]
    refine⟨⟨⟨by omega,by omega⟩,by omega,?_,?_,?_⟩,hparts.1,?_⟩
    · rw[ew];exact hu0.2.1
    · rw[ew,(sm.seg _).2.1,gr.new.2.2.1]
    · rw[ew];exact hu0.2.2
    · rw[(sm.seg _).2.2.1,gr.new.2.2.2];simp;omega
  · rw[ew,g0];exact hparts.2.1
  · rw[ew,g0];exact hparts.2.2.1
  · rw[ew,g0];exact hparts.2.2.2
  · rw[ew,hget _ (by omega),if_pos ⟨by omega,by simp;omega⟩]
    rw[show(a+1+(i:Int)-a).toNat=i+1 by omega]
    simp[hi]
  · rw[sm.free];exact gr.free
  · rw[sm.count];exact gr.count
  · rw[ew]
    intro i hi hu
    have e1:(a+i) / 64=a / 64:=by omega
    have e2:(a+i) % 64=a % 64+i:=by omega
    by_cases h0:(s.mem.seg (a / 64).toNat).taken=0
    · have:=hu.2.1.2.2
      rw[e1]at this
      exact this h0
    · have h3:=(gr.old h0).2.2.1
      have h4:=hu.2.2
      rw[e1,e2]at h4
      omega

theorem Sp.make_ok{s:Sp}(ok:SpOK s){kind more:Int}{ws:List Int}(hkd:1<=kind/\kind<=13)(hmo:0<=more/\more<281474976710656)(hl:ws.length<=62)(hw: ∀w∈ws,aM w)(hf:1<=s.mem.free):
    (s.make kind more ws).2.2=0/\hF (s.make kind more ws).1.mem (s.make kind more ws).2.1 kind more ws/\SpOK (s.make kind more ws).1/\Made s.mem (s.make kind more ws).1.mem (s.make kind more ws).2.1 ws.length:=
  Sp.make_ok0 ok hkd hmo hl hw (Sp.alloc_can ok ⟨by omega,.inr ⟨by unfold rawK;split<;>omega,by omega,by omega⟩⟩ hf)
theorem Mem.store_get{m:Mem}{a w:Int}(hu:m.used a)(x:Int)(hx:0<=x):(m.store a w).1.get x=if x=a then w else m.get x:=by
  have e:m.store a w=(m.set a w).mark (a / 64) (a % 64 / 16) ((m.set a w).younger ((m.set a w).seg (a / 64).toNat) w (((m.set a w).seg (a / 64).toNat).cards (a % 64 / 16).toNat)):=by unfold Mem.store;rw[if_pos hu]
  rw[e,<-Mem.set_get (m:=m) x hx hu.1]
  unfold Mem.get
  rw[(Mem.mark_seg _).2.2.2]
theorem Mem.mark_lim{m:Mem}{k c v:Int}:(m.mark k c v).1.limit=m.limit/\(m.mark k c v).1.free=m.free/\(m.mark k c v).1.count=m.count:=by
  unfold Mem.mark
  split
  · exact⟨rfl,rfl,rfl⟩
  split
  · exact⟨rfl,rfl,rfl⟩
  · exact⟨rfl,rfl,rfl⟩
theorem Mem.store_lim{m:Mem}{a w:Int}:(m.store a w).1.limit=m.limit/\(m.store a w).1.free=m.free/\(m.store a w).1.count=m.count:=by
  unfold Mem.store
  split
  · exact Mem.mark_lim
  · exact⟨rfl,rfl,rfl⟩
theorem Mem.store_used{m:Mem}{a w x:Int}:(m.store a w).1.used x ↔ m.used x:=by
  unfold Mem.used
  rw[Mem.store_has,(Mem.store_seg _).2.2]
theorem Mem.mark_ok{m:Mem}(ok:cF m){k c v:Int}(h1:m.has k)(h2:0<=c/\c<4)(h3:0<=v/\v<=5):(m.mark k c v).2=0:=by
  unfold Mem.mark
  rw[if_neg (λhh=>hh h1),if_neg (by omega)]
theorem cF.genOf{m:Mem}(ok:cF m)(w:Int):0<=(m.genOf w).1:=by
  unfold Mem.genOf
  split
  · simp only
    split
    · exact(ok.seg _).gen.1
    · exact Int.le_refl _
  · exact Int.le_refl _
theorem Mem.store_0{m:Mem}(ok:cF m){a w:Int}(hu:m.used a)(hw:aM w):(m.store a w).2=0:=by
  have e:m.store a w=(m.set a w).mark (a / 64) (a % 64 / 16) ((m.set a w).younger ((m.set a w).seg (a / 64).toNat) w (((m.set a w).seg (a / 64).toNat).cards (a % 64 / 16).toNat)):=by unfold Mem.store;rw[if_pos hu]
  have ok2:=ok.set a hw
  rw[e]
  refine Mem.mark_ok ok2 (Mem.set_has.2 hu.2.1) (by omega) ?_
  have hc:=(ok2.seg (a / 64).toNat).cards (a % 64 / 16).toNat
  have hg:=ok2.genOf w
  unfold Mem.younger
  split
  · omega
  · exact hc

def Sep(w:Int)(n:Nat)(w':Int)(n':Nat):Prop:= ∀i j:Nat,i<=n->j<=n'->w / 8+i≠w' / 8+j
theorem Sep.symm{w w':Int}{n n':Nat}(h:Sep w n w' n'):Sep w' n' w n:=λi j hi hj e=>h j i hj hi e.symm
theorem hF.set{m:Mem}{w kind more v:Int}{ws:List Int}(h:hF m w kind more ws)(ok:cF m){i:Nat}(hi:i<ws.length):hF (m.store (w / 8+1+i) v).1 w kind more (ws.set i v):=by
  have hn64: ∀k,(m.seg k).n<=64:=λk=>(ok.seg k).n.2
  have hu:=h.usedAt hn64 hi
  have w0:0<=w / 8:=by have:=h.word.1;omega
  have ho:=h.obj
  have e0:(m.store (w / 8+1+i) v).1.get (w / 8)=m.get (w / 8):=by rw[Mem.store_get hu _ w0,if_neg (by omega)]
  refine⟨h.word,⟨⟨ho.1.1,ho.1.2.1,Mem.store_has.2 ho.1.2.2.1,?_,?_⟩,by rw[e0];exact ho.2.1,?_⟩,by rw[e0];exact h.kindEq,by rw[e0,List.length_set];exact h.lenEq,by rw[e0];exact h.moreEq,λj hj=>?_⟩
  · rw[e0,(Mem.store_seg _).2.1];exact ho.1.2.2.2.1
  · rw[(Mem.store_seg _).2.2];exact ho.1.2.2.2.2
  · rw[e0,(Mem.store_seg _).2.2];exact ho.2.2
  · rw[List.length_set]at hj
    rw[Mem.store_get hu _ (by omega),List.getElem_set]
    by_cases hij:i=j
    · subst hij;rw[if_pos rfl,if_pos rfl]
    · rw[if_neg (by omega),if_neg hij];exact h.get j hj

def Mem.isPair(m:Mem)(w:Int):Prop:=(m.atW w 1 0\/m.atW w 2 1)/\w / 8 % 2=0
instance (m:Mem) (w:Int):Decidable (m.isPair w):=by unfold Mem.isPair;infer_instance
theorem kZ{H:zW}{hv:zY}{o:Option (Blk×Hp)}{w:Int}(V:View H hv o)(hw:aM w):
  fL.C hv w H (λv H'=> ∃a:Int,v=.tuple #[.int .i64 a,.bool (decide ((mof o).isPair w))]/\((mof o).isPair w->a=w / 8)/\Ext H H'):=by
 refine HC.via λR hR=>fL.link ?_
 unfold fL.pt
 have hw0:0<=w / 8:=by have:=hw.1;omega
 refine HC.mono (mS V hw) ?_
 rintro _ H1 ⟨a,rfl,ha,e1⟩
 refine⟨_,_,rfl,?_⟩
 by_cases h1:(mof o).atW w 1 0
 ·rw[if_pos (zQ h1),ha h1,gP hw0]
  refine hR _ _ ⟨_,?_,λ_=>rfl,e1⟩
  refine tupb ?_
  rw[Bool.eq_iff_iff,beq_iff_eq,decide_eq_true_eq]
  exact⟨λh=>⟨.inl h1,h⟩,λh=>h.2⟩
 rw[if_neg (by simpa using h1)]
 refine HC.mono (mS (V.ext e1) hw) ?_
 rintro _ H2 ⟨a2,rfl,ha2,e2⟩
 refine⟨_,_,rfl,hR _ _ ⟨_,?_,λh=>ha2 (h.1.resolve_left h1),e1.trans e2⟩⟩
 refine tupb ?_
 by_cases h2:(mof o).atW w 2 1
 ·rw[ha2 h2,gP hw0,zQ h2,Bool.true_and,Bool.eq_iff_iff,beq_iff_eq,decide_eq_true_eq]
  exact⟨λh=>⟨.inr h2,h⟩,λh=>h.2⟩
 ·rw[zJ h2,Bool.false_and,zJ]
  exact λh=>h.1.elim h1 h2
theorem mT{H:zW}{hv:zY}{o:Option (Blk×Hp)}{w:Int}(V:View H hv o)(hw:aM w):
  fW.C hv w H (λv H'=>v=.bool (decide ((mof o).isPair w))/\Ext H H'):=by
 refine HC.via λR hR=>fW.link ?_
 unfold fW.pt
 refine HC.mono (kZ V hw) ?_
 rintro _ H1 ⟨a,rfl,ha,e1⟩
 exact⟨_,_,rfl,hR _ _ ⟨rfl,e1⟩⟩


def Mem.halfE(m:Mem)(w i:Int):Int:=if m.isPair w then(if m.used (w / 8+i)then 0 else 18)else 3
theorem Mem.isPair.addr{m:Mem}{w:Int}(h:m.isPair w)(hw:aM w):0<=w / 8/\w / 8<65536:=by
 have:=hw.1
 refine⟨by omega,?_⟩
 rcases h.1 with h | h
 ·exact h.1.2
 ·exact h.1.2
theorem mU{H:zW}{hv:zY}{o:Option (Blk×Hp)}{w i:Int}(V:View H hv o)(hw:aM w)(hi:0<=i/\i<=1):
  fX.C hv w i H (λv H'=>v=.tuple #[.int .u64 (if(mof o).halfE w i=0 then(mof o).get (w / 8+i)else 0),.int .i64 ((mof o).halfE w i)]/\Ext H H'):=by
 refine HC.via λR hR=>fX.link ?_
 unfold fX.pt zq
 refine HC.mono (kZ V hw) ?_
 rintro _ H1 ⟨a,rfl,ha,e1⟩
 refine⟨_,_,rfl,?_⟩
 by_cases hp:(mof o).isPair w
 case neg=>
  rw[if_neg (by simpa using hp)]
  have e:(mof o).halfE w i=3:=by unfold Mem.halfE;rw[if_neg hp]
  rw[e]at hR
  exact hR _ _ ⟨rfl,e1⟩
 rw[if_pos (zQ hp),ha hp]
 have hb:=hp.addr hw
 have e:(mof o).halfE w i=if(mof o).used (w / 8+i)then 0 else 18:=by unfold Mem.halfE;rw[if_pos hp]
 rw[e]at hR
 cases V with
 | nobody=>exact absurd (hp.1.elim (λh=>h.2.2.1) (λh=>h.2.2.1)) jV
 | empty h=>exact absurd (hp.1.elim (λh=>h.2.2.1) (λh=>h.2.2.1)) jV
 | @real b x h ok=>
  have h1:=h.ext e1
  have hm:mof (some (b,x))=x.sp.mem:=rfl
  rw[hm]at hR
  refine⟨_,rfl,_,h1.hPtr,_,rfl,_,h1.cd.cPtr,_,rfl,_,h1.cd.sp.memPtr,?_⟩
  rw[w64 (n:=w / 8+i) (by omega)]
  refine HC.mono (kd h1.cd.sp.mem ok.mem (by omega)) ?_
  rintro _ H2 ⟨rfl,rfl⟩
  by_cases hu:x.sp.mem.used (w / 8+i)
  ·rw[if_pos hu]at hR⊢
   exact⟨_,_,rfl,hR _ _ ⟨rfl,e1⟩⟩
  ·rw[if_neg hu]at hR⊢
   exact⟨_,_,rfl,hR _ _ ⟨rfl,e1⟩⟩
theorem nN{H:zW}{hv:zY}{o:Option (Blk×Hp)}{w:Int}(V:View H hv o)(hw:aM w):
  gc.C hv w H (λv H'=>v=.tuple #[.int .u64 (if(mof o).halfE w 0=0 then(mof o).get (w / 8+0)else 0),.int .i64 ((mof o).halfE w 0)]/\Ext H H'):=by
 refine HC.via λR hR=>gc.link ?_
 unfold gc.pt
 refine HC.mono (mU V hw (by decide)) ?_
 rintro _ H1 ⟨rfl,e1⟩
 exact⟨_,_,rfl,hR _ _ ⟨rfl,e1⟩⟩
theorem nO{H:zW}{hv:zY}{o:Option (Blk×Hp)}{w:Int}(V:View H hv o)(hw:aM w):
  gd.C hv w H (λv H'=>v=.tuple #[.int .u64 (if(mof o).halfE w 1=0 then(mof o).get (w / 8+1)else 0),.int .i64 ((mof o).halfE w 1)]/\Ext H H'):=by
 refine HC.via λR hR=>gd.link ?_
 unfold gd.pt
 refine HC.mono (mU V hw (by decide)) ?_
 rintro _ H1 ⟨rfl,e1⟩
 exact⟨_,_,rfl,hR _ _ ⟨rfl,e1⟩⟩
def kx(o:Option (Blk×Hp))(w i v:Int):Option (Blk×Hp):=
 match o with
 | none=>none
 | some (b,x)=>some (b,x.setMem (if x.sp.mem.isPair w then(x.sp.mem.store (w / 8+i) v).1 else x.sp.mem))
def lr(o:Option (Blk×Hp))(w i v:Int):Int:=if(mof o).isPair w then((mof o).store (w / 8+i) v).2 else 3
theorem nP{H:zW}{hv:zY}{o:Option (Blk×Hp)}{w i v:Int}(V:View H hv o)(hw:aM w)(hi:0<=i/\i<=1)(hv':aM v):
  gE.C hv w i v H (λu H'=>u=.int .i64 (lr o w i v)/\View H' hv (kx o w i v)/\Fr (own o) H H'):=by
 refine HC.via λR hR=>gE.link ?_
 unfold gE.pt zq
 refine HC.mono (kZ V hw) ?_
 rintro _ H1 ⟨a,rfl,ha,e1⟩
 refine⟨_,_,rfl,?_⟩
 by_cases hp:(mof o).isPair w
 case neg=>
  rw[if_neg (by simpa using hp)]
  have e:lr o w i v=3:=by unfold lr;rw[if_neg hp]
  have e2:kx o w i v=o:=by
   unfold kx
   match o,hp with
   | none,_=>rfl
   | some (b,x),hp=>
    have hp': ¬x.sp.mem.isPair w:=hp
    simp only;rw[if_neg hp'];rfl
  rw[e,e2]at hR
  exact hR _ _ ⟨rfl,V.ext e1,e1.fr⟩
 rw[if_pos (zQ hp),ha hp]
 have hb:=hp.addr hw
 cases V with
 | nobody=>exact absurd (hp.1.elim (λh=>h.2.2.1) (λh=>h.2.2.1)) jV
 | empty h=>exact absurd (hp.1.elim (λh=>h.2.2.1) (λh=>h.2.2.1)) jV
 | @real b x h ok=>
  have h1:=h.ext e1
  have hp':x.sp.mem.isPair w:=hp
  refine⟨_,rfl,_,h1.hPtr,?_⟩
  rw[w64 (n:=w / 8+i) (by omega)]
  refine HC.mono (lq h1.cd ok ⟨by omega,by omega⟩ hv') ?_
  rintro _ H2 ⟨rfl,hc2,f2⟩
  refine⟨_,rfl,hR _ _ ⟨?_,?_,?_⟩⟩
  ·unfold lr;rw[if_pos hp];rfl
  ·have e2:kx (some (b,x)) w i v=some (b,x.setMem (x.sp.mem.store (w / 8+i) v).1):=by unfold kx;simp only;rw[if_pos hp']
   rw[e2]
   exact .real (h1.withCd f2 (λj hj=>by simp at hj;omega) hc2) (ok.store _ hv')
  ·exact(e1.fr (S:=own (some (b,x)))).trans (f2.mono (λj hj _=>by simp at hj;simp[own];omega))
theorem od{H:zW}{hv:zY}{o:Option (Blk×Hp)}{w v:Int}(V:View H hv o)(hw:aM w)(hv':aM v):
  fR.C hv w v H (λu H'=>u=.int .i64 (lr o w 0 v)/\View H' hv (kx o w 0 v)/\Fr (own o) H H'):=by
 refine HC.via λR hR=>fR.link ?_
 unfold fR.pt
 refine HC.mono (nP V hw (by decide) hv') ?_
 rintro _ H1 ⟨rfl,V1,f1⟩
 exact⟨_,rfl,hR _ _ ⟨rfl,V1,f1⟩⟩
theorem oe{H:zW}{hv:zY}{o:Option (Blk×Hp)}{w v:Int}(V:View H hv o)(hw:aM w)(hv':aM v):
  fS.C hv w v H (λu H'=>u=.int .i64 (lr o w 1 v)/\View H' hv (kx o w 1 v)/\Fr (own o) H H'):=by
 refine HC.via λR hR=>fS.link ?_
 unfold fS.pt
 refine HC.mono (nP V hw (by decide) hv') ?_
 rintro _ H1 ⟨rfl,V1,f1⟩
 exact⟨_,rfl,hR _ _ ⟨rfl,V1,f1⟩⟩
def Mem.sizeOf(m:Mem)(w:Int):Int:=if m.isPair w then 2 else if m.isObj w then m.len w+1 else 0
theorem qd{H:zW}{hv:zY}{o:Option (Blk×Hp)}{w:Int}(V:View H hv o)(hw:aM w):
  gx.C hv w H (λv H'=>v=.int .i64 ((mof o).sizeOf w)/\Ext H H'):=by
 refine HC.via λR hR=>gx.link ?_
 unfold gx.pt zq
 refine HC.mono (mT V hw) ?_
 rintro _ H1 ⟨rfl,e1⟩
 refine⟨_,rfl,?_⟩
 by_cases hp:(mof o).isPair w
 ·rw[if_pos (zQ hp)]
  exact hR _ _ ⟨by unfold Mem.sizeOf;rw[if_pos hp],e1⟩
 rw[if_neg (by simpa using hp)]
 refine HC.mono (ip (V.ext e1) hw) ?_
 rintro _ H2 ⟨rfl,e2⟩
 refine⟨_,_,_,_,_,rfl,?_⟩
 by_cases ho:(mof o).isObj w
 ·rw[if_pos (zQ ho)]
  have hl:=ho.len_lt
  have hle:(mof o).len w=hn ((mof o).get (w / 8)):=by unfold Mem.len;rw[if_pos ho]
  refine hR _ _ ⟨?_,e1.trans e2⟩
  rw[w64 (by omega)];unfold Mem.sizeOf;rw[if_neg hp,if_pos ho]
 ·rw[if_neg (by simpa using ho)]
  exact hR _ _ ⟨by unfold Mem.sizeOf;rw[if_neg hp,if_neg ho],e1.trans e2⟩

theorem oT{H0 H:zW}{b:Nat}{x y:Int}(hb:H[b]?=some (.cells #[.int .u64 x,.int .u64 y] 33 (0,0))):cY H (some ⟨b,0,none⟩) (wvs [x,y]):=
 dH hb _ 0 0 (λj hj=>by
  have:j=0\/j=1:=by simp at hj;omega
  rcases this with rfl | rfl<;>rfl)
theorem lc{H:zW}{hv:zY}{o:Option (Blk×Hp)}{x y:Int}(V:View H hv o)(hx:aM x)(hy:aM y)(hc:l3 o):
  fI.C hv x y H (λv H'=>v=.tuple #[.int .u64 (putR o 0 1 [x,y]).1,.int .i64 (putR o 0 1 [x,y]).2]/\View H' hv (putO o 0 1 [x,y])/\Fr (own o) H H'):=by
 refine HC.via λR hR=>fI.link ?_
 unfold fI.pt
 intro b H1 hb hH1
 have e1:Ext H H1:=Ext.push' hH1
 refine HC.mono (lJ (ws:=[x,y]) (V.ext e1) (oT (H0:=H) (aO hb hH1)) rfl (λw hw=>by simp at hw;rcases hw with rfl | rfl<;>assumption) (λi hi hio=>by simp at hi;have:=V.own_lt i hio;omega) hc (by decide) (by simp)) ?_
 rintro _ H2 ⟨rfl,V2,f2⟩
 exact⟨_,_,rfl,hR _ _ ⟨rfl,V2,e1.fr.trans f2⟩⟩
theorem qe{H:zW}{hv:zY}{o:Option (Blk×Hp)}{x y:Int}(V:View H hv o)(hx:aM x)(hy:aM y)(hc:l3 o):
  gw.C hv x y H (λv H'=>v=.tuple #[.int .u64 (putR o 1 2 [x,y]).1,.int .i64 (putR o 1 2 [x,y]).2]/\View H' hv (putO o 1 2 [x,y])/\Fr (own o) H H'):=by
 refine HC.via λR hR=>gw.link ?_
 unfold gw.pt
 intro b H1 hb hH1
 have e1:Ext H H1:=Ext.push' hH1
 refine HC.mono (lJ (ws:=[x,y]) (V.ext e1) (oT (H0:=H) (aO hb hH1)) rfl (λw hw=>by simp at hw;rcases hw with rfl | rfl<;>assumption) (λi hi hio=>by simp at hi;have:=V.own_lt i hio;omega) hc (by decide) (by simp)) ?_
 rintro _ H2 ⟨rfl,V2,f2⟩
 exact⟨_,_,rfl,hR _ _ ⟨rfl,V2,e1.fr.trans f2⟩⟩
