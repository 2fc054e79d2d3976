/-
  A memory of segments, said of abstract segments: how it stands on the heap, and the contracts of package seg. Proves nothing of any one statement.
-/
import Derived.Test.YtfhbhckhmnleoaaGreatFword
import Derived.Test.YtfhbhckhmnleoaaGreatWord
import Derived.Test.YtfhbhckhmnleoaaGreatFcardx
set_option linter.unusedVariables false
set_option linter.unusedSimpArgs false
namespace Go.Proofs.YtfhbhckhmnleoaaGreat
open Go
variable{H C:zV}{d i B:Int}{k z:Nat}{v:zW}{D:List Int}
abbrev I64(x:Int):Prop:= -9223372036854775808<=x/\x<=9223372036854775807
structure Seg where
  gen:Int
  kind:Int
  n:Int
  cards:Nat->Int
  taken:Int
  words:Nat->Int
def Seg.cell(s:Seg):Nat->Value
  | 0=> vi s.gen
  | 1=> vi s.kind
  | 2=> vi s.n
  | 3=> vi (s.cards 0)
  | 4=> vi (s.cards 1)
  | 5=> vi (s.cards 2)
  | 6=> vi (s.cards 3)
  | 7=> vi s.taken
  | j+8=> vu (s.words j)
def Seg.none:Seg:=⟨0,0,0,λ_=>0,0,λ_=>0⟩
def Seg.new(gen kind taken:Int):Seg:=⟨gen,kind,0,λ_=>5,taken,λ_=>0⟩
structure rf (s:Seg):Prop where
  gen:0<=s.gen/\s.gen<=4
  kind:0<=s.kind/\s.kind<=3
  n:0<=s.n/\s.n<=64
  cards: ∀c,0<=s.cards c/\s.cards c<=5
  taken:0<=s.taken
  words: ∀j,aC (s.words j)
structure Mem where
  limit:Nat
  seg:Nat->Seg
  count:Int
  free:Int
variable{j:Mem}
def Mem.upd(m:Mem)(k:Nat)(s:Seg):Mem:={m with seg:=λi=>if i=k then s else m.seg i}
@[simp] theorem Mem.upd_limit (m:Mem) (k:Nat) (s:Seg):(m.upd k s).limit=m.limit:=rfl
@[simp] theorem Mem.upd_count (m:Mem) (k:Nat) (s:Seg):(m.upd k s).count=m.count:=rfl
@[simp] theorem Mem.upd_free (m:Mem) (k:Nat) (s:Seg):(m.upd k s).free=m.free:=rfl
theorem Mem.upd_same(m:Mem)(k:Nat)(s:Seg):(m.upd k s).seg k=s:=by simp[Mem.upd]
theorem Mem.upd_other(m:Mem)(s:Seg)(h:k≠z):(m.upd z s).seg k=m.seg k:=by simp[Mem.upd,h]
theorem Mem.upd_seg(m:Mem)(i k:Nat)(s:Seg):(m.upd k s).seg i=if i=k then s else m.seg i:=rfl
def Mem.nfree(m:Mem):Nat:=(List.range m.limit).countP (λk=>(m.seg k).taken==0)
structure aX (m:Mem):Prop where
  lim:8<=m.limit/\m.limit<=1024
  seg: ∀k,rf (m.seg k)
  free:m.free=m.nfree
  count:0<=m.count
theorem j8: ∀(n k:Nat) (p q:Nat->Bool),k<n->(∀i,i≠k->p i=q i)->p k=true->q k=false->(List.range n).countP p=(List.range n).countP q+1
  | 0,k,p,q,hk,_,_,_=>by omega
  | n+1,k,p,q,hk,hpq,h1,h2=>by
    rw[List.range_succ,List.countP_append,List.countP_append]
    by_cases a:k=n
    · subst a
      have e:(List.range k).countP p=(List.range k).countP q:=by
        refine List.countP_congr λi b=>?_
        have:i<k:=List.mem_range.1 b
        rw[hpq i (by omega)]
      rw[e]
      simp[h1,h2]
    · rw[j8 n k p q (by omega) hpq h1 h2]
      simp[List.countP_cons,hpq n (λh=>a h.symm)]
      omega
theorem Mem.nfree_pos(h:j.nfree≠0): ∃k,k<j.limit/\(j.seg k).taken=0:=by
  have:0< (List.range j.limit).countP (λk=>(j.seg k).taken==0):=Nat.pos_of_ne_zero h
  obtain⟨k,hk,a⟩:=List.countP_pos_iff.1 this
  exact⟨k,List.mem_range.1 hk,by simpa using a⟩
theorem Mem.nfree_same{s:Seg}(h:s.taken=(j.seg k).taken):(j.upd k s).nfree=j.nfree:=by
  unfold Mem.nfree
  refine List.countP_congr λi _=>?_
  rw[Mem.upd_seg]
  by_cases a:i=k
  · rw[if_pos a,h,a]
  · rw[if_neg a]
theorem Mem.nfree_take{m:Mem}{k:Nat}{s:Seg}(hk:k<m.limit)(a:(m.seg k).taken=0)(b:s.taken≠0):m.nfree=(m.upd k s).nfree+1:=by
  refine j8 _ k _ _ hk (λi c=>by rw[Mem.upd_other _ _ c]) (by simp[a]) ?_
  show(((m.upd k s).seg k).taken==0)=false
  rw[Mem.upd_same];simpa using b
theorem Mem.nfree_give{m:Mem}{k:Nat}{s:Seg}(hk:k<m.limit)(a:(m.seg k).taken≠0)(b:s.taken=0):(m.upd k s).nfree=m.nfree+1:=by
  refine j8 _ k _ _ hk (λi c=>by rw[Mem.upd_other _ _ c]) ?_ (by simpa using a)
  show(((m.upd k s).seg k).taken==0)=true
  rw[Mem.upd_same];simp[b]
theorem aX.upd{m:Mem}(h:aX m){k:Nat}{s:Seg}(hs:rf s)(ht:s.taken=(m.seg k).taken):aX (m.upd k s):=
  ⟨h.lim, fun i => by rw [Mem.upd_seg]; by_cases hi : i = k; · rw [if_pos hi]; exact hs
                      · rw[if_neg hi];exact h.seg i,by rw[Mem.nfree_same ht];exact h.free,h.count⟩
structure cR (H:zV) (bm bs:Nat) (m:Mem):Prop where
  mem: ∃cap:Nat,H[bm]?=some (.cells #[vs (some ⟨bs,0,none⟩) m.limit cap,vi m.count,vi m.free] 157 (0,0))
  ne:bm≠bs
  segs: ∃cs:Array Value,H[bs]?=some (.cells cs 161 (0,0))/\m.limit*72<=cs.size/\ ∀k,k<m.limit-> ∀j,j<72->cs[k*72+j]?=some ((m.seg k).cell j)
theorem cR.keep{S:List Nat}(h:cR H k z j)(f:Fr S H C)(b:k ∉ S)(c:z ∉ S):cR C k z j:=by
  obtain⟨a,d,e⟩:=h.segs
  exact⟨⟨h.mem.choose,f.get b h.mem.choose_spec⟩,h.ne,a,f.get c d,e⟩
theorem cR.ext(h:cR H k z j)(f:Ext H C):cR C k z j:=h.keep (S:=[]) f.fr (by simp) (by simp)
theorem cR.lt{m:Mem}(h:cR H k z m):k<H.size/\z<H.size:=by
  obtain⟨b,a,_⟩:=h.segs
  exact⟨bC h.mem.choose_spec,bC a⟩
theorem cR.at{H:zV}{a:Nat}{m:Mem}(h:cR H z a m){k j:Nat}(hk:k<m.limit)(c:j<72):hat H ⟨a,k*72+j,none⟩=some ((m.seg k).cell j):=by
  obtain⟨e,b,_,d⟩:=h.segs
  rw[aK b,d k hk j c]
theorem cR.segsAt(h:cR H k z j): ∃a:Nat,hat H ⟨k,0,none⟩=some (vs (some ⟨z,0,none⟩) j.limit a):=⟨h.mem.choose,by rw[aK h.mem.choose_spec];rfl⟩
theorem cR.countAt(h:cR H k z j):hat H ⟨k,1,none⟩=some (vi j.count):=by rw[aK h.mem.choose_spec];rfl
theorem cR.freeAt(h:cR H k z j):hat H ⟨k,2,none⟩=some (vi j.free):=by rw[aK h.mem.choose_spec];rfl
theorem cR.canPuts{a:Nat}(h:cR H z a j){k o n:Nat}(hk:k<j.limit)(hn:o+n<=72):aN H ⟨a,k*72+o,none⟩ 0 n:=by
  obtain⟨c,b,d,_⟩:=h.segs
  refine cD b _ _ _ ?_
  have:(k+1)*72<=j.limit*72:=Nat.mul_le_mul_right _ hk
  omega
theorem cR.puts{b:Nat}(h:cR H z b j){k o:Nat}{vs:List Value}{s:Seg}(hk:k<j.limit)(hn:o+vs.length<=72)
    (t: ∀w,w<vs.length->vs[w]?=some (s.cell (o+w))) (p: ∀w,w<72->(w<o\/o+vs.length<=w)->s.cell w=(j.seg k).cell w):
    cR (aV H ⟨b,k*72+o,none⟩ vs 0) z b (j.upd k s)/\Fr [b] H (aV H ⟨b,k*72+o,none⟩ vs 0):=by
  obtain⟨r,q,v,n⟩:=h.segs
  have u:(k+1)*72<=j.limit*72:=Nat.mul_le_mul_right _ hk
  rw[dO vs H r (k*72+o) 0 q,Nat.add_zero]
  refine⟨⟨⟨h.mem.choose,by rw[gO (λe=>h.ne e.symm)];exact h.mem.choose_spec⟩,h.ne,_,bD (bC q),by rw[splice_size];exact v,λi c w d=>?_⟩,Fr.set⟩
  rw[Mem.upd_seg]
  have c:i<j.limit:=c
  by_cases a:i=k
  · subst a
    rw[if_pos rfl]
    by_cases g:w<o
    · rw[dJ _ _ _ _ (by omega),n i c w d,p w d (.inl g)]
    by_cases l:o+vs.length<=w
    · rw[gf _ _ _ _ (by omega),n i c w d,p w d (.inr l)]
    · rw[show i*72+w=i*72+o+(w-o)by omega,eU _ _ _ _ (by omega) (by omega),t (w-o) (by omega),show o+(w-o)=w by omega]
  · rw[if_neg a,<-n i c w d]
    rcases Nat.lt_or_gt_of_ne a with m | f
    · have:(i+1)*72<=k*72:=Nat.mul_le_mul_right _ m
      exact dJ _ _ _ _ (by omega)
    · have:(k+1)*72<=i*72:=Nat.mul_le_mul_right _ f
      exact gf _ _ _ _ (by omega)
theorem cR.put{a:Nat}{m:Mem}(h:cR H z a m){k o:Nat}{v:Value}{s:Seg}(hk:k<m.limit)(hn:o<72)
    (c:s.cell o=v) (d: ∀j,j<72->j≠o->s.cell j=(m.seg k).cell j):
    cR (aV H ⟨a,k*72+o,none⟩ [v] 0) z a (m.upd k s)/\Fr [a] H (aV H ⟨a,k*72+o,none⟩ [v] 0):=by
  refine h.puts hk (by simp;omega) (λj b=>?_) (λj b e=>d j b (by simp at e;omega))
  simp only[List.length_singleton]at b
  obtain rfl:j=0:=by omega
  rw[Nat.add_zero,c];rfl
def Mem.has(m:Mem)(k:Int):Prop:=0<=k/\k<m.limit/\(m.seg k.toNat).taken≠0
instance (m:Mem) (k:Int):Decidable (m.has k):=by unfold Mem.has;infer_instance
theorem kv(h:cR H k z j):
    fB.C (some ⟨k,0,none⟩) d H (λv g=>v=vp (if j.has d then some ⟨z,d.toNat*72,none⟩else none)/\g=H):=by
  refine HC.via λR b=>fB.link ?_
  unfold fB.pt
  rw[onPtr_some]
  by_cases e:d<0
  · rw[if_pos e];exact b _ _ ⟨by rw[if_neg (λa=>by have:=a.1;omega)],rfl⟩
  rw[if_neg e]
  refine⟨_,_,_,h.segsAt.choose_spec,?_⟩
  by_cases f:d>=(j.limit:Int)
  · rw[if_pos f];exact b _ _ ⟨by rw[if_neg (λa=>by have:=a.2.1;omega)],rfl⟩
  rw[if_neg f]
  have hk:d.toNat<j.limit:=by omega
  refine⟨_,_,_,h.segsAt.choose_spec,_,rfl,⟨by omega,by omega⟩,(j.seg d.toNat).taken,?_,?_⟩
  · simp only[addr_add_mk,Nat.zero_add];exact h.at hk (by omega)
  by_cases c:(j.seg d.toNat).taken=0
  · rw[if_pos c];exact b _ _ ⟨by rw[if_neg (λa=>a.2.2 c)],rfl⟩
  · rw[if_neg c]
    refine⟨_,_,_,h.segsAt.choose_spec,_,rfl,⟨by omega,by omega⟩,b _ _ ⟨?_,rfl⟩⟩
    rw[if_pos ⟨by omega,by omega,c⟩,addr_add_mk,Nat.zero_add]
def Seg.head(s:Seg):Value:=.agg #[vi s.gen,vi s.kind,vi s.n,vi (s.cards 0),vi (s.cards 1),vi (s.cards 2),vi (s.cards 3)]
theorem js{m:Mem}(h:cR H k z m):
    bB.C (some ⟨k,0,none⟩) d H (λv w=>v=.tuple #[(if m.has d then m.seg d.toNat else Seg.none).head,.bool (decide (m.has d))]/\Ext H w):=by
  refine HC.via λR u=>bB.link ?_
  unfold bB.pt
  intro b H1 x e
  have g:Ext H H1:=Ext.push' e
  have t:=aO x e
  refine HC.mono (kv (h.ext g)) ?_
  rintro _ i ⟨rfl,rfl⟩
  refine⟨_,rfl,?_⟩
  by_cases hk:m.has d
  · rw[if_pos hk,onPtr_some]
    have q:d.toNat<m.limit:=by have:=hk.1;have:=hk.2.1;omega
    have f:aP i ⟨z,d.toNat*72,none⟩ 0 [vi (m.seg d.toNat).gen,vi (m.seg d.toNat).kind,vi (m.seg d.toNat).n,vi ((m.seg d.toNat).cards 0),vi ((m.seg d.toNat).cards 1),vi ((m.seg d.toNat).cards 2),vi ((m.seg d.toNat).cards 3)]:=by
      have a:=λj (y:j<72)=>(h.ext g).at (j:=j) q y
      simp only[aP,addr_add_mk]
      exact⟨a 0 (by omega),a 1 (by omega),a 2 (by omega),a 3 (by omega),a 4 (by omega),a 5 (by omega),a 6 (by omega),trivial⟩
    refine⟨_,_,_,_,_,_,_,f,?_⟩
    obtain⟨p,s⟩:=boxed (vs:=[vi (m.seg d.toNat).gen,vi (m.seg d.toNat).kind,vi (m.seg d.toNat).n,vi ((m.seg d.toNat).cards 0),vi ((m.seg d.toNat).cards 1),vi ((m.seg d.toNat).cards 2),vi ((m.seg d.toNat).cards 3)]) (H1:=i) t rfl rfl
    refine⟨p,λl c=>?_⟩
    obtain⟨r,o⟩:=s l c
    refine⟨_,_,_,_,_,_,_,r,u _ _ ⟨?_,o H g (by omega)⟩⟩
    rw[if_pos hk,zX hk];rfl
  · rw[if_neg hk,onPtr_none]
    obtain⟨p,s⟩:=boxed (vs:=[vi 0,vi 0,vi 0,vi 0,vi 0,vi 0,vi 0]) (H1:=i) t rfl rfl
    refine⟨p,λl c=>?_⟩
    obtain⟨r,o⟩:=s l c
    refine⟨_,_,_,_,_,_,_,r,u _ _ ⟨?_,o H g (by omega)⟩⟩
    rw[if_neg hk,zQ hk];rfl
def Mem.used(m:Mem)(a:Int):Prop:=0<=a/\m.has (a / 64)/\a % 64< (m.seg (a / 64).toNat).n
instance (m:Mem) (a:Int):Decidable (m.used a):=by unfold Mem.used;infer_instance
def Mem.get(m:Mem)(a:Int):Int:=(m.seg (a / 64).toNat).words (a % 64).toNat
def Seg.set(s:Seg)(i:Nat)(w:Int):Seg:={s with words:=λj=>if j=i then w else s.words j}
def Mem.set(m:Mem)(a w:Int):Mem:=m.upd (a / 64).toNat ((m.seg (a / 64).toNat).set (a % 64).toNat w)
theorem m0(h:cR H k z j)(l:aX j)(i:d<=9223372036854775807):
    fH.C (some ⟨k,0,none⟩) d H (λv f=>v=vp (if j.used d then some ⟨z,(d / 64).toNat*72+(8+(d % 64).toNat),none⟩else none)/\f=H):=by
  refine HC.via λR b=>fH.link ?_
  unfold fH.pt zY
  by_cases e:d<0
  · rw[if_pos e];exact b _ _ ⟨by rw[if_neg (λa=>by have:=a.1;omega)],rfl⟩
  rw[if_neg e,hX (by omega),w64 (n:=d / 64) (by omega),gU (by omega)]
  refine HC.mono (kv h) ?_
  rintro _ g ⟨rfl,rfl⟩
  refine⟨_,rfl,?_⟩
  by_cases hk:j.has (d / 64)
  · rw[if_pos hk,onPtr_some]
    have c:(d / 64).toNat<j.limit:=by have:=hk.1;have:=hk.2.1;omega
    refine⟨(j.seg (d / 64).toNat).n,by rw[addr_add_mk];exact h.at c (by omega),?_⟩
    by_cases hn:d % 64>=(j.seg (d / 64).toNat).n
    · rw[if_pos hn];exact b _ _ ⟨by rw[if_neg (λa=>by have:=a.2.2;omega)],rfl⟩
    · rw[if_neg hn]
      refine⟨⟨by omega,by omega⟩,b _ _ ⟨?_,rfl⟩⟩
      rw[if_pos ⟨by omega,hk,by omega⟩]
      simp only[addr_add_mk,Nat.mul_one]
      rw[Nat.add_assoc]
  · rw[if_neg hk,onPtr_none];exact b _ _ ⟨by rw[if_neg (λa=>hk a.2.1)],rfl⟩
theorem hU(h:cR H k z j)(g:aX j)(f:d<=9223372036854775807):
    bL.C (some ⟨k,0,none⟩) d H (λv e=>v=(if j.used d then .tuple #[vu (j.get d),vi 0]else .tuple #[vu 0,vi 18])/\e=H):=by
  refine HC.via λR c=>bL.link ?_
  unfold bL.pt
  refine HC.mono (m0 h g f) ?_
  rintro _ i ⟨rfl,rfl⟩
  refine⟨_,rfl,?_⟩
  by_cases a:j.used d
  · rw[if_pos a,onPtr_some]
    have b:(d / 64).toNat<j.limit:=by have:=a.2.1.1;have:=a.2.1.2.1;omega
    refine⟨j.get d,?_,c _ _ ⟨by rw[if_pos a],rfl⟩⟩
    rw[h.at b (by omega),show 8+(d % 64).toNat=(d % 64).toNat+8 by omega];rfl
  · rw[if_neg a,onPtr_none];exact c _ _ ⟨by rw[if_neg a],rfl⟩
theorem Seg.set_cell(s:Seg)(i:Nat)(w:Int):(s.set i w).cell (8+i)=vu w:=by
  rw[show 8+i=i+8 by omega];simp[Seg.cell,Seg.set]
theorem Seg.set_cell_other(s:Seg)(i:Nat)(w:Int): ∀j,j≠8+i->(s.set i w).cell j=s.cell j
  | 0,_ | 1,_ | 2,_ | 3,_ | 4,_ | 5,_ | 6,_ | 7,_=>rfl
  | j+8,h=>by simp[Seg.cell,Seg.set];intro e;omega
theorem gP{m:Mem}(h:cR H k z m)(q:aX m)(n:d<=9223372036854775807):
    bM.C (some ⟨k,0,none⟩) d i H (λv e=>v=vi (if m.used d then 0 else 18)/\cR e k z (if m.used d then m.set d i else m)/\Fr [z] H e):=by
  refine HC.via λR f=>bM.link ?_
  unfold bM.pt
  refine HC.mono (m0 h q n) ?_
  rintro _ r ⟨rfl,rfl⟩
  refine⟨_,rfl,?_⟩
  by_cases a:m.used d
  · rw[if_pos a,onPtr_some]
    have b:(d / 64).toNat<m.limit:=by have:=a.2.1.1;have:=a.2.1.2.1;omega
    refine⟨h.canPuts b (by omega),λt c=>?_⟩
    subst c
    obtain⟨g,l⟩:=h.put (v:=vu i) (s:=(m.seg (d / 64).toNat).set (d % 64).toNat i) b (o:=8+(d % 64).toNat) (by omega) (Seg.set_cell _ _ _) (λj _ p=>Seg.set_cell_other _ _ _ j p)
    exact f _ _ ⟨by rw[if_pos a],by rw[if_pos a];exact g,l⟩
  · rw[if_neg a,onPtr_none];exact f _ _ ⟨by rw[if_neg a],by rw[if_neg a];exact h,Fr.refl _ _⟩
def Seg.bump(s:Seg)(d:Int):Seg:={s with n:=s.n+d}
def Mem.bump(m:Mem)(k d:Int):Mem×Int×Int:=
  if ¬m.has k then(m,0,19)
  else if d<1 then(m,0,1)
  else if 64-(m.seg k.toNat).n<d then(m,0,2)
  else(m.upd k.toNat ((m.seg k.toNat).bump d),k*64+(m.seg k.toNat).n,0)
theorem m4(h:cR H k z j)(r:aX j):
    fI.C (some ⟨k,0,none⟩) d i H (λv l=>v=.tuple #[vi (j.bump d i).2.1,vi (j.bump d i).2.2]/\cR l k z (j.bump d i).1/\Fr [z] H l):=by
  refine HC.via λR b=>fI.link ?_
  unfold fI.pt zY
  refine HC.mono (kv h) ?_
  rintro _ t ⟨rfl,rfl⟩
  refine⟨_,rfl,?_⟩
  by_cases hk:j.has d
  · rw[if_pos hk,onPtr_some]
    have a:d.toNat<j.limit:=by have:=hk.1;have:=hk.2.1;omega
    have q:=r.lim
    have y:=(r.seg d.toNat).n
    have B:=hk.1
    by_cases f:i<1
    · rw[if_pos f]
      have e:j.bump d i=(j,0,1):=by unfold Mem.bump;rw[if_neg (λg=>g hk),if_pos f]
      rw[e]at b
      exact b _ _ ⟨rfl,h,Fr.refl _ _⟩
    rw[if_neg f]
    have hn:hat t (Addr.add ⟨z,d.toNat*72,none⟩ 2)=some (vi (j.seg d.toNat).n):=by rw[addr_add_mk];exact h.at a (by omega)
    refine⟨_,hn,?_⟩
    rw[w64 (n:=64-(j.seg d.toNat).n) (by omega)]
    by_cases p:i>64-(j.seg d.toNat).n
    · rw[if_pos p]
      have e:j.bump d i=(j,0,2):=by unfold Mem.bump;rw[if_neg (λg=>g hk),if_neg f,if_pos (by omega)]
      rw[e]at b
      exact b _ _ ⟨rfl,h,Fr.refl _ _⟩
    rw[if_neg p]
    have e:j.bump d i=(j.upd d.toNat ((j.seg d.toNat).bump i),d*64+(j.seg d.toNat).n,0):=by unfold Mem.bump;rw[if_neg (λg=>g hk),if_neg f,if_neg (by omega)]
    rw[e]at b
    refine⟨_,hn,by rw[addr_add_mk];exact h.canPuts a (by omega),λA c=>?_⟩
    rw[addr_add_mk,w64 (n:=(j.seg d.toNat).n+i) (by omega)]at c
    subst c
    obtain⟨m,u⟩:=h.put (v:=vi ((j.seg d.toNat).n+i)) (s:=(j.seg d.toNat).bump i) a (o:=2) (by omega) rfl (λD _ w=>by
      match D,w with
      | 0,_ | 1,_ | 3,_ | 4,_ | 5,_ | 6,_ | 7,_=>rfl
      | 2,h=>exact absurd rfl h
      | D+8,_=>rfl)
    refine⟨(j.seg d.toNat).n+i,?_,b _ _ ⟨?_,m,u⟩⟩
    · rw[addr_add_mk,m.at a (by omega),Mem.upd_same];rfl
    · have x:d<1024:=by have:=hk.2.1;omega
      rw[w64 (n:=d*64) (by omega),w64 (n:=d*64+((j.seg d.toNat).n+i)) (by omega),w64 (by omega)]
      rw[show d*64+((j.seg d.toNat).n+i)-i=d*64+(j.seg d.toNat).n by omega]
  · rw[if_neg hk,onPtr_none]
    have e:j.bump d i=(j,0,19):=by unfold Mem.bump;rw[if_pos hk]
    rw[e]at b
    exact b _ _ ⟨rfl,h,Fr.refl _ _⟩
def Seg.mark(s:Seg)(c:Nat)(v:Int):Seg:={s with cards:=λi=>if i=c then v else s.cards i}
def Mem.mark(m:Mem)(k c v:Int):Mem×Int:=
  if ¬m.has k then(m,19)
  else if c<0\/4<=c\/v<0\/5<v then(m,1)
  else(m.upd k.toNat ((m.seg k.toNat).mark c.toNat v),0)
theorem m7(h:cR H k z j):
    fJ.C (some ⟨k,0,none⟩) d i B H (λv g=>v=vi (j.mark d i B).2/\cR g k z (j.mark d i B).1/\Fr [z] H g):=by
  refine HC.via λR a=>fJ.link ?_
  unfold fJ.pt
  refine HC.mono (kv h) ?_
  rintro _ q ⟨rfl,rfl⟩
  refine⟨_,rfl,?_⟩
  by_cases hk:j.has d
  · rw[if_pos hk,onPtr_some]
    have c:d.toNat<j.limit:=by have:=hk.1;have:=hk.2.1;omega
    by_cases l:i<0\/4<=i\/B<0\/5<B
    · rw[if_pos (by simp;omega)]
      have e:j.mark d i B=(j,1):=by unfold Mem.mark;rw[if_neg (λf=>f hk),if_pos l]
      rw[e]at a
      exact a _ _ ⟨rfl,h,Fr.refl _ _⟩
    · rw[if_neg (by simp;omega)]
      have e:j.mark d i B=(j.upd d.toNat ((j.seg d.toNat).mark i.toNat B),0):=by unfold Mem.mark;rw[if_neg (λf=>f hk),if_neg l]
      rw[e]at a
      simp only[addr_add_mk,Nat.mul_one]
      refine⟨⟨by omega,by omega⟩,by rw[Nat.add_assoc];exact h.canPuts c (by omega),λr b=>?_⟩
      rw[Nat.add_assoc]at b
      subst b
      obtain⟨m,n⟩:=h.put (v:=vi B) (s:=(j.seg d.toNat).mark i.toNat B) c (o:=3+i.toNat) (by omega) (by
          have:i.toNat=0\/i.toNat=1\/i.toNat=2\/i.toNat=3:=by omega
          rcases this with e | e | e | e<;>rw[e]<;>rfl) (λt _ p=>by
        match t,p with
        | 0,_ | 1,_ | 2,_ | 7,_=>rfl
        | 3,h | 4,h | 5,h | 6,h=>simp only[Seg.cell,Seg.mark];rw[if_neg (by omega)]
        | t+8,_=>rfl)
      exact a _ _ ⟨rfl,m,n⟩
  · rw[if_neg hk,onPtr_none]
    have e:j.mark d i B=(j,19):=by unfold Mem.mark;rw[if_pos hk]
    rw[e]at a
    exact a _ _ ⟨rfl,h,Fr.refl _ _⟩
def Mem.first(m:Mem):Nat:=((List.range m.limit).find? (λk=>(m.seg k).taken==0)).getD 0
theorem Mem.first_eq(hk:k<j.limit)(a:(j.seg k).taken=0)(b: ∀d,d<k->(j.seg d).taken≠0):j.first=k:=by
  unfold Mem.first
  have:(List.range j.limit).find? (λk=>(j.seg k).taken==0)=some k:=by
    rw[List.find?_range_eq_some]
    refine⟨by simp[a],by simp[hk],λd c=>by simpa using b d c⟩
  rw[this];rfl
def Mem.take(m:Mem)(gen kind:Int):Mem×Int×Int:=
  if gen<0\/4<gen\/kind<0\/3<kind then(m,0,1)
  else if m.free=0 then(m,0,2)
  else({m with count:=m.count+1,free:=m.free-1}.upd m.first (Seg.new gen kind (m.count+1)),m.first,0)
theorem sK(b a t:Int): ∃vs:List Value,vs=([vi b,vi a,vi 0,vi 5,vi 5,vi 5,vi 5,vi t]++List.replicate 64 (vu 0):List Value)/\vs.length=72/\ ∀j,j<72->vs[j]?=some ((Seg.new b a t).cell j):=by
  refine⟨_,rfl,by simp,λj c=>?_⟩
  match j,c with
  | 0,_ | 1,_ | 2,_ | 3,_ | 4,_ | 5,_ | 6,_ | 7,_=>rfl
  | j+8,c=>
    rw[List.getElem?_append_right (by simp)]
    simp only[List.length_cons,List.length_nil]
    rw[List.getElem?_replicate,if_pos (by omega)];rfl
theorem nY: ∃z:Array Value,z=(List.replicate 8 (vi 0)++List.replicate 64 (vu 0):List Value).toArray/\z.size=72/\ ∀j,j<72->z[j]?=some (Seg.none.cell j):=by
  refine⟨_,rfl,by simp,λj a=>?_⟩
  rw[List.getElem?_toArray]
  match j,a with
  | 0,_ | 1,_ | 2,_ | 3,_ | 4,_ | 5,_ | 6,_ | 7,_=>rfl
  | j+8,a=>
    rw[List.getElem?_append_right (by simp)]
    simp only[List.length_replicate]
    rw[List.getElem?_replicate,if_pos (by omega)];rfl
theorem qi{q:Nat}(h:cR H z q j)(p:aX j)(hc:j.count<4611686018427387904):
    fY.C (some ⟨z,0,none⟩) d i H (λv A=>v=.tuple #[vi (j.take d i).2.1,vi (j.take d i).2.2]/\cR A z q (j.take d i).1/\Fr [z,q] H A):=by
  refine HC.via λR m=>fY.link ?_
  unfold fY.pt zY
  rw[onPtr_some]
  have U:=p.lim
  have a:(d<0\/4<d\/i<0\/3<i)->R (.tuple #[vi 0,vi 1]) H:=λK=>by
    have e:j.take d i=(j,0,1):=by unfold Mem.take;rw[if_pos K]
    rw[e]at m
    exact m _ _ ⟨rfl,h,Fr.refl _ _⟩
  by_cases F:d<0
  · rw[if_pos F];exact a (.inl F)
  rw[if_neg F]
  by_cases G:d>4
  · rw[if_pos G];exact a (.inr (.inl G))
  rw[if_neg G]
  by_cases I:i<0
  · rw[if_pos I];exact a (.inr (.inr (.inl I)))
  rw[if_neg I]
  by_cases J:i>3
  · rw[if_pos J];exact a (.inr (.inr (.inr J)))
  rw[if_neg J]
  refine⟨_,_,_,h.segsAt.choose_spec,?_⟩
  rw[if_neg (by omega)]
  refine⟨j.free,by rw[addr_add_mk];exact h.freeAt,?_⟩
  by_cases r:j.free=0
  · rw[if_pos r]
    have e:j.take d i=(j,0,2):=by unfold Mem.take;rw[if_neg (by omega),if_pos r]
    rw[e]at m
    exact m _ _ ⟨rfl,h,Fr.refl _ _⟩
  rw[if_neg r]
  have O:j.nfree≠0:=λe=>r (by rw[p.free,e];rfl)
  have N:=Mem.nfree_pos O
  have L:j.free<=1024:=by
    rw[p.free]
    have:j.nfree<=(List.range j.limit).length:=List.countP_le_length
    simp at this
    omega
  have D:0<=j.free:=by rw[p.free];omega
  refine⟨λk A=>A=H/\0<=k/\ ∀ab:Nat,ab<k.toNat->(j.seg ab).taken≠0,λk _=>(1024-k).toNat,⟨rfl,by omega,λab l=>by simp at l⟩,?_⟩
  rintro k X ⟨rfl,V,l⟩
  obtain⟨W,a3,M⟩:=N
  have c:k.toNat<j.limit:=by
    rcases Nat.lt_or_ge W k.toNat with h | h
    · exact absurd M (l W h)
    · omega
  refine⟨_,_,_,h.segsAt.choose_spec,_,rfl,⟨V,by omega⟩,(j.seg k.toNat).taken,by simp only[addr_add_mk,Nat.zero_add];exact h.at c (by omega),?_⟩
  have ht:=(p.seg k.toNat).taken
  by_cases x:(j.seg k.toNat).taken>0
  · rw[if_pos x,w64 (n:=k+1) (by omega)]
    refine⟨⟨rfl,by omega,λab a2=>?_⟩,by show(1024-(k+1)).toNat< (1024-k).toNat;omega⟩
    by_cases e:ab=k.toNat
    · subst e;omega
    · exact l ab (by omega)
  rw[if_neg x]
  have y:(j.seg k.toNat).taken=0:=by omega
  have b:j.first=k.toNat:=Mem.first_eq c y l
  have T:=p.count
  refine⟨j.count,by rw[addr_add_mk];exact h.countAt,by rw[addr_add_mk];exact cD h.mem.choose_spec _ _ _ (by simp),λY f=>?_⟩
  rw[addr_add_mk,dO _ _ _ _ _ h.mem.choose_spec,w64 (n:=j.count+1) (by omega)]at f
  have E:Y[z]?=some (.cells #[.slice (some ⟨q,0,none⟩) j.limit h.mem.choose,vi (j.count+1),vi j.free] 157 (0,0)):=by rw[f,bD h.lt.1];rfl
  refine⟨j.free,by rw[addr_add_mk,aK E];rfl,by rw[addr_add_mk];exact cD E _ _ _ (by simp),λP g=>?_⟩
  rw[addr_add_mk,dO _ _ _ _ _ E,w64 (n:=j.free-1) (by omega),f,lq]at g
  have B:cR P z q {j with count:=j.count+1,free:=j.free-1}:=by
    subst g
    obtain⟨Z,K,hr⟩:=h.segs
    exact⟨⟨h.mem.choose,by rw[bD h.lt.1];rfl⟩,h.ne,Z,by rw[gO h.ne];exact K,hr⟩
  have f3:Fr [z] X P:=by subst g;exact Fr.set
  refine⟨_,_,_,B.segsAt.choose_spec,j.count+1,by rw[addr_add_mk];exact B.countAt,_,rfl,⟨V,by show k< (j.limit:Int);omega⟩,?_⟩
  simp only[addr_add_mk,Nat.zero_add]
  have u:=B.canPuts (k:=k.toNat) (o:=0) (n:=72) c (by omega)
  rw[Nat.add_zero]at u
  refine⟨u,λH4 t=>?_⟩
  obtain⟨vs,evs,hl,hg⟩:=sK d i (j.count+1)
  rw[<-evs]at t
  obtain⟨S,Q⟩:=B.puts (k:=k.toNat) (o:=0) (vs:=vs) (s:=Seg.new d i (j.count+1)) c (by omega) (λab l=>by rw[Nat.zero_add];exact hg ab (by omega)) (λab l ho=>by omega)
  rw[Nat.add_zero]at S Q
  have e:j.take d i=({j with count:=j.count+1,free:=j.free-1}.upd k.toNat (Seg.new d i (j.count+1)),k,0):=by
    unfold Mem.take
    rw[if_neg (by omega),if_neg r,b,show((k.toNat:Nat):Int)=k by omega]
  rw[e]at m
  subst t
  exact m _ _ ⟨rfl,S,(f3.trans' Q (λaa w _=>by simp at w;simp[w]) (λaa w _=>by simp at w;simp[w]))⟩
def Mem.fresh(limit:Nat):Mem:=⟨limit,λ_=>Seg.none,0,limit⟩
theorem kW:rf Seg.none:=⟨by decide,by decide,by decide,λ_=>(by decide:(0:Int)<=0/\(0:Int)<=5),by decide,λ_=>(by decide:aC 0)⟩
theorem pc(h:8<=k/\k<=1024):aX (Mem.fresh k):=
  ⟨h,λ_=>kW,by
    show(k:Int)=_
    unfold Mem.nfree
    have:(List.range k).countP (λa=>((Mem.fresh k).seg a).taken==0)=(List.range k).length:=List.countP_eq_length.2 (λ_ _=>rfl)
    show(k:Int)=(((List.range k).countP (λa=>((Mem.fresh k).seg a).taken==0):Nat):Int)
    rw[this];simp,Int.le_refl _⟩
theorem rH(A:I64 d):
    jp.C d H (λv e=>(¬(8<=d/\d<=1024)/\v=.tuple #[vp none,vi 1]/\e=H)\/
      ((8<=d/\d<=1024)/\ ∃f g,v=.tuple #[vp (some ⟨f,0,none⟩),vi 0]/\cR e f g (Mem.fresh d.toNat)/\Ext H e/\H.size<=g/\g<f)):=by
  refine HC.via λR p=>jp.link ?_
  unfold jp.pt
  by_cases h:8<=d/\d<=1024
  · rw[if_neg (by simp;omega)]
    obtain⟨z,s,r,u⟩:=nY
    rw[<-s]
    refine⟨by omega,by omega,by omega,by omega,λb x q a m y i c=>p _ _ (.inr ⟨h,m,b,rfl,?_,(Ext.push' a).trans (Ext.push' c),by omega,?_⟩)⟩
    · have o:=aO q a
      have t:=aO i c
      have l:m≠b:=by have:=bC o;omega
      refine⟨⟨d.toNat,?_⟩,l,_,(Ext.push' c).get o,?_,?_⟩
      · rw[t]
        show _=some (Obj.cells #[vs (some ⟨b,0,none⟩) d.toNat d.toNat,vi 0,vi ((d.toNat:Nat):Int)] _ _)
        rw[show((d.toNat:Nat):Int)=d by omega]
      · rw[jx,r];exact Nat.le_refl _
      · intro k hk j w
        have:=kL (z:=z) (n:=d.toNat) (k:=k) (j:=j) hk (by omega)
        rw[r]at this
        rw[this,u j w];rfl
    · have:=bC (aO q a);omega
  · rw[if_pos (by simp;omega)]
    exact p _ _ (.inl ⟨h,rfl,rfl⟩)
theorem aX.bump(a:aX j)(k d:Int):aX (j.bump k d).1:=by
 unfold Mem.bump
 by_cases hk:j.has k
 ·rw[if_neg (λh=>h hk)]
  by_cases b:d<1
  ·rw[if_pos b];exact a
  rw[if_neg b]
  by_cases c:64-(j.seg k.toNat).n<d
  ·rw[if_pos c];exact a
  rw[if_neg c]
  have s:=a.seg k.toNat
  exact a.upd ⟨s.gen,s.kind,by have:=s.n;show 0<=(j.seg k.toNat).n+d/\(j.seg k.toNat).n+d<=64;omega,s.cards,s.taken,s.words⟩ rfl
 ·rw[if_pos hk];exact a
theorem Mem.bump_lim(m:Mem)(k d:Int):(m.bump k d).1.limit=m.limit/\(m.bump k d).1.count=m.count/\(m.bump k d).1.free=m.free:=by
 unfold Mem.bump
 split
 ·exact⟨rfl,rfl,rfl⟩
 split
 ·exact⟨rfl,rfl,rfl⟩
 split<;>exact⟨rfl,rfl,rfl⟩
theorem Mem.bump_fail(h:(j.bump d i).2.2≠0):(j.bump d i).1=j:=by
 unfold Mem.bump at*
 split
 ·rfl
 ·rename_i a
  rw[if_neg a]at h
  split
  ·rfl
  ·rename_i b
   rw[if_neg b]at h
   split
   ·rfl
   ·rename_i c
    rw[if_neg c]at h
    exact absurd rfl h
theorem Mem.first_spec(g:aX j)(h:j.free≠0):j.first<j.limit/\(j.seg j.first).taken=0:=by
 have b:j.nfree≠0:=λe=>h (by rw[g.free,e];rfl)
 obtain⟨k,hk,c⟩:=Mem.nfree_pos b
 have f:((List.range j.limit).find? (λk=>(j.seg k).taken==0)).isSome=true:=by
  rw[List.find?_isSome];exact⟨k,List.mem_range.2 hk,by simp[c]⟩
 obtain⟨i,a⟩:=Option.isSome_iff_exists.1 f
 have d:=List.find?_some a
 have hm:=List.mem_of_find?_eq_some a
 unfold Mem.first
 rw[a]
 exact⟨List.mem_range.1 hm,by simpa using d⟩
theorem aX.take{m:Mem}(c:aX m)(b a:Int):aX (m.take b a).1:=by
 unfold Mem.take
 by_cases f:b<0\/4<b\/a<0\/3<a
 ·rw[if_pos f];exact c
 rw[if_neg f]
 by_cases d:m.free=0
 ·rw[if_pos d];exact c
 rw[if_neg d]
 obtain⟨l,j⟩:=Mem.first_spec c d
 have n:=c.count
 refine⟨c.lim,λi=>?_,?_,by show 0<=m.count+1;omega⟩
 ·rw[Mem.upd_seg]
  by_cases g:i=m.first
  ·rw[if_pos g]
   exact⟨by show 0<=b/\b<=4;omega,by show 0<=a/\a<=3;omega,(by decide:(0:Int)<=0/\(0:Int)<=64),λ_=>(by decide:(0:Int)<=5/\(5:Int)<=5),by show 0<=m.count+1;omega,λ_=>(by decide:aC 0)⟩
  ·rw[if_neg g];exact c.seg i
 ·show m.free-1=_
  have e:=Mem.nfree_take (m:=m) (k:=m.first) (s:=Seg.new b a (m.count+1)) l j (by show m.count+1≠0;omega)
  have h:({m with count:=m.count+1,free:=m.free-1}.upd m.first (Seg.new b a (m.count+1))).nfree=(m.upd m.first (Seg.new b a (m.count+1))).nfree:=rfl
  rw[h,c.free,e];omega
theorem aX.set{m:Mem}(b:aX m)(a:Int){w:Int}(c:aC w):aX (m.set a w):=by
 have s:=b.seg (a / 64).toNat
 refine b.upd ⟨s.gen,s.kind,s.n,s.cards,s.taken,λj=>?_⟩ rfl
 simp only[Seg.set]
 by_cases h:j=(a % 64).toNat
 ·rw[if_pos h];exact c
 ·rw[if_neg h];exact s.words j
theorem aX.mark{m:Mem}(a:aX m)(k c v:Int):aX (m.mark k c v).1:=by
 unfold Mem.mark
 by_cases hk:m.has k
 ·rw[if_neg (λh=>h hk)]
  by_cases b:c<0\/4<=c\/v<0\/5<v
  ·rw[if_pos b];exact a
  rw[if_neg b]
  have s:=a.seg k.toNat
  refine a.upd ⟨s.gen,s.kind,s.n,λi=>?_,s.taken,s.words⟩ rfl
  simp only[Seg.mark]
  by_cases h:i=c.toNat
  ·rw[if_pos h];omega
  ·rw[if_neg h];exact s.cards i
 ·rw[if_pos hk];exact a
structure Sp where
 mem:Mem
 cur:Nat->Nat->Int
variable{u:Sp}
structure Blk where
 h:Nat
 c:Nat
 sp:Nat
 m:Nat
 s:Nat
variable{A:Blk}
def Blk.all(b:Blk):List Nat:=[b.h,b.c,b.sp,b.m,b.s]
structure SpOK (s:Sp):Prop where
 mem:aX s.mem
 cur: ∀g k,s.cur g k=0\/(1<=s.cur g k/\s.mem.has (s.cur g k-1)/\(s.mem.seg (s.cur g k-1).toNat).gen=g/\(s.mem.seg (s.cur g k-1).toNat).kind=k)
structure SpAt (H:zV) (b:Blk) (s:Sp):Prop where
 mem:cR H b.m b.s s.mem
 ne:b.sp≠b.m/\b.sp≠b.s
 sp: ∃cs:Array Value,H[b.sp]?=some (.cells cs 82 (0,0))/\cs.size=21/\cs[0]?=some (vp (some ⟨b.m,0,none⟩))/\ ∀g k,g<5->k<4->cs[1+g*4+k]?=some (vi (s.cur g k))
theorem SpAt.keep{S:List Nat}(h:SpAt H A u)(f:Fr S H C)(b:A.sp ∉ S)(c:A.m ∉ S)(d:A.s ∉ S):SpAt C A u:=by
 obtain⟨a,e,g⟩:=h.sp
 exact⟨h.mem.keep f c d,h.ne,a,f.get b e,g⟩
theorem SpAt.ext{b:Blk}{s:Sp}(h:SpAt H b s)(f:Ext H C):SpAt C b s:=h.keep (S:=[]) f.fr (by simp) (by simp) (by simp)
theorem SpAt.withMem{S:List Nat}{m:Mem}(h:SpAt H A u)(f:Fr S H C)(b:A.sp ∉ S)(hm:cR C A.m A.s m):SpAt C A {u with mem:=m}:=by
 obtain⟨a,c,d⟩:=h.sp
 exact⟨hm,h.ne,a,f.get b c,d⟩
theorem SpAt.memPtr{s:Sp}(h:SpAt H A s):hat H ⟨A.sp,0,none⟩=some (vp (some ⟨A.m,0,none⟩)):=by
 obtain⟨c,b,_,a,_⟩:=h.sp
 rw[aK b,a]
theorem SpAt.curAt(h:SpAt H A u){g k:Nat}(c:g<5)(hk:k<4):hat H ⟨A.sp,1+g*4+k,none⟩=some (vi (u.cur g k)):=by
 obtain⟨d,a,_,_,b⟩:=h.sp
 rw[aK a,b g k c hk]
def Sp.setCur(s:Sp)(g k:Nat)(v:Int):Sp:={s with cur:=λi j=>if i=g/\j=k then v else s.cur i j}
theorem SpAt.putCur(h:SpAt H A u){g k:Nat}{v:Int}(o:g<5)(hk:k<4):
  aN H ⟨A.sp,1+g*4+k,none⟩ 0 1/\SpAt (aV H ⟨A.sp,1+g*4+k,none⟩ [vi v] 0) A (u.setCur g k v)/\Fr [A.sp] H (aV H ⟨A.sp,1+g*4+k,none⟩ [vi v] 0):=by
 obtain⟨b,a,n,c,d⟩:=h.sp
 refine⟨cD a _ _ _ (by omega),?_⟩
 rw[dO _ H b _ 0 a]
 refine⟨⟨h.mem.keep (S:=[A.sp]) Fr.set (by have:=h.ne;simp;omega) (by have:=h.ne;simp;omega),h.ne,_,bD (bC a),by rw[splice_size];exact n,?_,λi j f l=>?_⟩,Fr.set⟩
 ·rw[dJ _ _ _ _ (by omega)];exact c
 ·simp only[Sp.setCur]
  by_cases e:i=g/\j=k
  ·rw[if_pos e,e.1,e.2]
   have:=eU b [vi v] (1+g*4+k+0) 0 (by simp;omega) (by simp)
   simpa using this
  ·rw[if_neg e,<-d i j f l]
   rcases Nat.lt_or_ge (1+i*4+j) (1+g*4+k)with m | m
   ·exact dJ _ _ _ _ (by omega)
   ·exact gf _ _ _ _ (by simp;omega)
theorem lA(h:SpAt H A u):cX.C (some ⟨A.sp,0,none⟩) H (λv a=>v=vF/\a=H):=by
 refine HC.via λR b=>cX.link ?_
 unfold cX.pt
 rw[onPtr_some]
 refine⟨_,h.memPtr,?_⟩
 rw[onPtr_some]
 exact b _ _ ⟨rfl,rfl⟩
def may(gen kind n:Int):Prop:=(0<=gen/\gen<=4)/\(((kind=0\/kind=1)/\n=2)\/((kind=2\/kind=3)/\1<=n/\n<=63))
instance (gen kind n:Int):Decidable (may gen kind n):=by unfold may;infer_instance
theorem pf:iq.C d i B H (λv e=>v=.bool (decide (may d i B))/\e=H):=by
 refine HC.via λR a=>iq.link ?_
 unfold iq.pt
 by_cases b:d<0\/d>4
 ·rw[if_pos (by simpa using b)]
  exact a _ _ ⟨by rw[zQ (λh=>by have:=h.1;omega)],rfl⟩
 rw[if_neg (by simpa using b)]
 by_cases c:i=0\/i=1
 ·rw[if_pos (by simpa using c)]
  refine a _ _ ⟨?_,rfl⟩
  congr 1
  rw[Bool.eq_iff_iff,decide_eq_true_eq]
  unfold may
  simp only[decide_eq_true_eq,beq_iff_eq,Bool.and_eq_true,Bool.or_eq_true]
  omega
 ·rw[if_neg (by simpa using c)]
  refine a _ _ ⟨?_,rfl⟩
  congr 1
  rw[Bool.eq_iff_iff,decide_eq_true_eq]
  unfold may
  simp only[decide_eq_true_eq,beq_iff_eq,Bool.and_eq_true,Bool.or_eq_true]
  omega
theorem mx(h:SpAt H A u)(f:SpOK u)(k:0<=d/\d<=4)(hk:0<=i/\i<=3):
  cE.C (some ⟨A.sp,0,none⟩) d i H (λv g=>v=(if u.cur d.toNat i.toNat=0 then .tuple #[vi 0,vF]else .tuple #[vi (u.cur d.toNat i.toNat-1),vT])/\g=H):=by
 refine HC.via λR c=>cE.link ?_
 unfold cE.pt zY
 rw[onPtr_some,if_neg (by omega),if_neg (by omega),if_neg (by omega),if_neg (by omega)]
 have e:hat H (Addr.add (Addr.add (Addr.add ⟨A.sp,0,none⟩ 1) (d.toNat*4)) (i.toNat*1))=some (vi (u.cur d.toNat i.toNat)):=by
  simp only[addr_add_mk,Nat.zero_add,Nat.mul_one]
  exact h.curAt (by omega) (by omega)
 refine⟨by omega,by omega,_,e,?_⟩
 by_cases a:u.cur d.toNat i.toNat=0
 ·rw[if_pos a];exact c _ _ ⟨by rw[if_pos a],rfl⟩
 ·rw[if_neg a]
  refine⟨by omega,by omega,_,e,c _ _ ⟨?_,rfl⟩⟩
  rw[if_neg a]
  have l:=f.mem.lim
  rcases f.cur d.toNat i.toNat with b | ⟨b,j,_⟩
  ·exact absurd b a
  ·rw[w64 (by have:=j.2.1;omega)]
def Sp.alloc(s:Sp)(gen kind n:Int):Sp×Int×Int:=
 if ¬may gen kind n then(s,0,1)
 else if s.cur gen.toNat kind.toNat≠0/\(s.mem.bump (s.cur gen.toNat kind.toNat-1) n).2.2=0 then
  ({s with mem:=(s.mem.bump (s.cur gen.toNat kind.toNat-1) n).1},(s.mem.bump (s.cur gen.toNat kind.toNat-1) n).2.1,0)
 else if(s.mem.take gen kind).2.2=0 then
  ({mem:=((s.mem.take gen kind).1.bump (s.mem.take gen kind).2.1 n).1,cur:=(s.setCur gen.toNat kind.toNat ((s.mem.take gen kind).2.1+1)).cur},((s.mem.take gen kind).1.bump (s.mem.take gen kind).2.1 n).2.1,((s.mem.take gen kind).1.bump (s.mem.take gen kind).2.1 n).2.2)
 else(s,0,(s.mem.take gen kind).2.2)
theorem jS(h:SpAt H A u)(o:SpOK u)(w:u.mem.count<4611686018427387904):
  bU.C (some ⟨A.sp,0,none⟩) d i B H (λv p=>v=.tuple #[vi (u.alloc d i B).2.1,vi (u.alloc d i B).2.2]/\SpAt p A (u.alloc d i B).1/\Fr [A.sp,A.m,A.s] H p):=by
 refine HC.via λR j=>bU.link ?_
 unfold bU.pt zY
 refine HC.mono (lA h) ?_
 rintro _ q ⟨rfl,rfl⟩
 refine⟨_,rfl,?_⟩
 rw[if_neg (by decide)]
 refine HC.mono pf ?_
 rintro _ q ⟨rfl,rfl⟩
 refine⟨_,rfl,?_⟩
 by_cases hm:may d i B
 case neg=>
  rw[if_neg (by simpa using hm)]
  have e:u.alloc d i B=(u,0,1):=by unfold Sp.alloc;rw[if_pos hm]
  rw[e]at j
  exact j _ _ ⟨rfl,h,Fr.refl _ _⟩
 rw[if_pos (zX hm)]
 have Y:=hm.1
 have hk:0<=i/\i<=3:=by have:=hm.2;omega
 refine HC.mono (mx h o Y hk) ?_
 rintro _ q ⟨rfl,rfl⟩
 have K: ∃(F:Int) (D:Bool),(if u.cur d.toNat i.toNat=0 then Value.tuple #[vi 0,vF]else .tuple #[vi (u.cur d.toNat i.toNat-1),vT])=.tuple #[vi F,.bool D]/\((D=false/\u.cur d.toNat i.toNat=0)\/(D=true/\u.cur d.toNat i.toNat≠0/\F=u.cur d.toNat i.toNat-1)):=by
  by_cases f:u.cur d.toNat i.toNat=0
  ·rw[if_pos f];exact⟨_,_,rfl,.inl ⟨rfl,f⟩⟩
  ·rw[if_neg f];exact⟨_,_,rfl,.inr ⟨rfl,f,rfl⟩⟩
 obtain⟨F,D,Z,X⟩:=K
 refine⟨F,D,Z,?_⟩
 refine⟨λp=>SpAt p A u/\Fr [A.sp,A.m,A.s] q p/\ ¬(u.cur d.toNat i.toNat≠0/\(u.mem.bump (u.cur d.toNat i.toNat-1) B).2.2=0),?_,?_⟩
 ·rcases X with⟨rfl,f⟩ | ⟨rfl,f,rfl⟩
  ·rw[if_neg (by decide)]
   exact⟨h,Fr.refl _ _,λc=>c.1 f⟩
  ·rw[if_pos rfl]
   refine⟨_,rfl,_,h.memPtr,?_⟩
   refine HC.mono (m4 h.mem o.mem) ?_
   rintro _ T ⟨rfl,l,G⟩
   refine⟨_,_,rfl,?_⟩
   have r:Fr [A.sp,A.m,A.s] q T:=G.mono (λa4 b _=>by simp at b;simp[b])
   by_cases t:(u.mem.bump (u.cur d.toNat i.toNat-1) B).2.2=0
   ·rw[if_pos t]
    have e:u.alloc d i B=({u with mem:=(u.mem.bump (u.cur d.toNat i.toNat-1) B).1},(u.mem.bump (u.cur d.toNat i.toNat-1) B).2.1,0):=by
     unfold Sp.alloc;rw[if_neg (λc=>c hm),if_pos ⟨f,t⟩]
    rw[e]at j
    exact j _ _ ⟨rfl,h.withMem G (by have:=h.ne;simp;omega) l,r⟩
   ·rw[if_neg t]
    rw[Mem.bump_fail t]at l
    have:=h.withMem G (by have:=h.ne;simp;omega) l
    exact⟨this,r,λc=>t c.2⟩
 rintro H4 ⟨E,V,x⟩
 refine⟨_,rfl,_,E.memPtr,?_⟩
 refine HC.mono (qi E.mem o.mem w) ?_
 rintro _ U ⟨rfl,n,I⟩
 refine⟨_,_,rfl,?_⟩
 have z:A.sp ∉ [A.m,A.s]:=by have:=h.ne;simp;omega
 have s:Fr [A.sp,A.m,A.s] q U:=V.trans (I.mono (λa4 b _=>by simp at b;simp;omega))
 by_cases a:(u.mem.take d i).2.2=0
 ·rw[if_pos a]
  have W:=E.withMem I z n
  have y:=W.putCur (g:=d.toNat) (k:=i.toNat) (v:=(u.mem.take d i).2.1+1) (by omega) (by omega)
  have O: -9223372036854775808<=(u.mem.take d i).2.1+1/\(u.mem.take d i).2.1+1<=9223372036854775807:=by
   have hl:=o.mem.lim
   unfold Mem.take at a⊢
   rw[if_neg (by omega)]at a⊢
   by_cases L:u.mem.free=0
   ·rw[if_pos L]at a;exact absurd a (show ¬((2:Int)=0)by decide)
   ·rw[if_neg L]
    have:=(Mem.first_spec o.mem L).1
    show-9223372036854775808<=(u.mem.first:Int)+1/\(u.mem.first:Int)+1<=_
    omega
  simp only[addr_add_mk,Nat.zero_add,Nat.mul_one]
  rw[w64 O]
  refine⟨by omega,by omega,y.1,λH6 J=>?_⟩
  subst J
  refine⟨_,y.2.1.memPtr,?_⟩
  refine HC.mono (m4 y.2.1.mem (o.mem.take d i)) ?_
  rintro _ H7 ⟨rfl,M,P⟩
  refine⟨_,_,rfl,?_⟩
  have e:u.alloc d i B=({mem:=((u.mem.take d i).1.bump (u.mem.take d i).2.1 B).1,cur:=(u.setCur d.toNat i.toNat ((u.mem.take d i).2.1+1)).cur},((u.mem.take d i).1.bump (u.mem.take d i).2.1 B).2.1,((u.mem.take d i).1.bump (u.mem.take d i).2.1 B).2.2):=by
   unfold Sp.alloc;rw[if_neg (λc=>c hm),if_neg x,if_pos a]
  rw[e]at j
  refine j _ _ ⟨rfl,y.2.1.withMem P (by have:=h.ne;simp;omega) M,?_⟩
  exact(s.trans (y.2.2.mono (λa4 b _=>by simp at b;simp[b]))).trans (P.mono (λa4 b _=>by simp at b;simp[b]))
 ·rw[if_neg a]
  have e:u.alloc d i B=(u,0,(u.mem.take d i).2.2):=by
   unfold Sp.alloc;rw[if_neg (λc=>c hm),if_neg x,if_neg a]
  rw[e]at j
  have N:(u.mem.take d i).1=u.mem:=by
   unfold Mem.take at a⊢
   by_cases Q:d<0\/4<d\/i<0\/3<i
   ·rw[if_pos Q]
   rw[if_neg Q]at a⊢
   by_cases S:u.mem.free=0
   ·rw[if_pos S]
   ·rw[if_neg S]at a;exact absurd rfl a
  rw[N]at n
  exact j _ _ ⟨rfl,E.withMem I z n,s⟩
theorem ph(q:I64 d):
  ip.C d H (λv c=>(¬(8<=d/\d<=1024)/\v=.tuple #[vp none,vi 1]/\Ext H c)\/
   ((8<=d/\d<=1024)/\ ∃b:Blk,v=.tuple #[vp (some ⟨b.sp,0,none⟩),vi 0]/\SpAt c b ⟨Mem.fresh d.toNat,λ_ _=>0⟩/\Ext H c/\H.size<=b.s/\b.s<b.m/\b.m<b.sp)):=by
 refine HC.via λR j=>ip.link ?_
 unfold ip.pt
 refine HC.mono (rH q) ?_
 rintro _ u (⟨hn,rfl,rfl⟩ | ⟨t,e,i,rfl,hm,l,h,f⟩)
 ·refine⟨_,_,rfl,?_⟩
  rw[if_neg (by decide)]
  exact j _ _ (.inl ⟨hn,rfl,Ext.refl _⟩)
 ·refine⟨_,_,rfl,?_⟩
  rw[if_pos rfl]
  intro b w p a
  have r:=hm.lt
  refine j _ _ (.inr ⟨t,⟨0,0,b,e,i⟩,rfl,?_,l.trans (Ext.push' a),h,f,by show e<b;omega⟩)
  refine⟨hm.ext (Ext.push' a),⟨by show b≠e;omega,by show b≠i;omega⟩,_,aO p a,rfl,rfl,λg k x hk=>?_⟩
  have o:g=0\/g=1\/g=2\/g=3\/g=4:=by omega
  have n:k=0\/k=1\/k=2\/k=3:=by omega
  rcases o with rfl | rfl | rfl | rfl | rfl<;>rcases n with rfl | rfl | rfl | rfl<;>rfl
theorem qj(h:8<=k/\k<=1024):SpOK ⟨Mem.fresh k,λ_ _=>0⟩:=⟨pc h,λ_ _=> .inl rfl⟩
structure CdAt (H:zV) (b:Blk) (s:Sp):Prop where
 sp:SpAt H b s
 ne:b.c≠b.sp/\b.c≠b.m/\b.c≠b.s
 c:H[b.c]?=some (.cells #[vp (some ⟨b.sp,0,none⟩)] 54 (0,0))
theorem CdAt.keep{S:List Nat}(h:CdAt H A u)(f:Fr S H C)(e:A.c ∉ S)(a:A.sp ∉ S)(b:A.m ∉ S)(d:A.s ∉ S):CdAt C A u:=
 ⟨h.sp.keep f a b d,h.ne,f.get e h.c⟩
theorem CdAt.ext{b:Blk}{s:Sp}(h:CdAt H b s)(f:Ext H C):CdAt C b s:=h.keep (S:=[]) f.fr (by simp) (by simp) (by simp) (by simp)
theorem CdAt.withSp{S:List Nat}{a:Sp}(h:CdAt H A u)(f:Fr S H C)(b:A.c ∉ S)(d:SpAt C A a):CdAt C A a:=⟨d,h.ne,f.get b h.c⟩
theorem CdAt.cPtr{s:Sp}(h:CdAt H A s):hat H ⟨A.c,0,none⟩=some (vp (some ⟨A.sp,0,none⟩)):=by rw[aK h.c];rfl
theorem CdAt.withMem{m:Mem}{S:List Nat}(h:CdAt H A u)(f:Fr S H C)(b: ∀i,i∈S->i=A.m\/i=A.s)(hm:cR C A.m A.s m):CdAt C A {u with mem:=m}:=
 h.withSp f (λa=>by have:=b _ a;have:=h.ne;omega) (h.sp.withMem f (λa=>by have:=b _ a;have:=h.sp.ne;omega) hm)
theorem jM(h:CdAt H A u):cF.C (some ⟨A.c,0,none⟩) H (λv a=>v=vF/\a=H):=by
 refine HC.via λR b=>cF.link ?_
 unfold cF.pt
 rw[onPtr_some]
 refine⟨_,h.cPtr,?_⟩
 rw[onPtr_some]
 refine⟨_,h.cPtr,_,rfl,_,h.sp.memPtr,?_⟩
 rw[onPtr_some]
 exact b _ _ ⟨rfl,rfl⟩
def fC(w:Int):Prop:=(w % 8=1\/w % 8=2\/w % 8=3\/w % 8=6)/\w / 8<65536
instance (w:Int):Decidable (fC w):=by unfold fC;infer_instance
def Mem.genOf(m:Mem)(w:Int):Int×Bool:=if fC w/\w % 8≠6 then((if m.has (w / 8 / 64)then(m.seg (w / 8 / 64).toNat).gen else 0),decide (m.has (w / 8 / 64)))else(0,false)
theorem qk(h:CdAt H A u)(w:aC d):fj.C (some ⟨A.c,0,none⟩) d H (λv y=>v=.tuple #[vi (u.mem.genOf d).1,.bool (u.mem.genOf d).2]/\Ext H y):=by
 refine HC.via λR f=>fj.link ?_
 unfold fj.pt zY
 refine HC.mono (iH w) ?_
 rintro _ H1 ⟨rfl,i⟩
 have t: ∃(a:Int) (p:Bool),(if(d % 8=1\/d % 8=2\/d % 8=3\/d % 8=6)/\d / 8<65536 then Value.tuple #[vi (d / 8),vT]else .tuple #[vi 0,vF])=.tuple #[vi a,.bool p]/\((fC d/\p=true/\a=d / 8)\/(¬fC d/\p=false)):=by
  by_cases b:(d % 8=1\/d % 8=2\/d % 8=3\/d % 8=6)/\d / 8<65536
  ·rw[if_pos b];exact⟨_,_,rfl,.inl ⟨b,rfl,rfl⟩⟩
  ·rw[if_neg b];exact⟨_,_,rfl,.inr ⟨b,rfl⟩⟩
 obtain⟨a,p,t,J⟩:=t
 refine⟨a,p,t,?_⟩
 refine HC.mono (jM (h.ext i)) ?_
 rintro _ M ⟨rfl,rfl⟩
 refine⟨_,rfl,?_⟩
 rw[if_neg (by decide)]
 rcases J with⟨o,rfl,rfl⟩ | ⟨o,rfl⟩
 case inr=>
  rw[if_neg (by decide)]
  have e:u.mem.genOf d=(0,false):=by unfold Mem.genOf;rw[if_neg (λb=>o b.1)]
  rw[e]at f
  exact f _ _ ⟨rfl,i⟩
 rw[if_pos rfl]
 refine HC.mono (hM w) ?_
 rintro _ N ⟨rfl,q⟩
 refine⟨_,rfl,?_⟩
 by_cases m:d % 8=6
 ·rw[if_pos m]
  have e:u.mem.genOf d=(0,false):=by unfold Mem.genOf;rw[if_neg (λb=>b.2 m)]
  rw[e]at f
  exact f _ _ ⟨rfl,i.trans q⟩
 rw[if_neg m]
 have r:=h.ext (i.trans q)
 have L:d / 8<65536:=o.2
 have x:0<=d / 8:=by have:=w.1;omega
 refine⟨_,rfl,_,r.cPtr,_,rfl,_,r.sp.memPtr,?_⟩
 rw[hX x,w64 (by omega)]
 refine HC.mono (js r.sp.mem) ?_
 rintro _ z ⟨rfl,E⟩
 have e:u.mem.genOf d=((if u.mem.has (d / 8 / 64)then u.mem.seg (d / 8 / 64).toNat else Seg.none).gen,decide (u.mem.has (d / 8 / 64))):=by
  unfold Mem.genOf;rw[if_pos ⟨o,m⟩];by_cases b:u.mem.has (d / 8 / 64)
  ·rw[if_pos b,if_pos b]
  ·rw[if_neg b,if_neg b];rfl
 rw[e]at f
 generalize (if u.mem.has (d / 8 / 64)then u.mem.seg (d / 8 / 64).toNat else Seg.none)=g at f
 refine⟨_,_,_,_,_,_,_,_,rfl,λO B G k=>?_⟩
 obtain⟨I,K⟩:=boxed (vs:=[vi g.gen,vi g.kind,vi g.n,vi (g.cards 0),vi (g.cards 1),vi (g.cards 2),vi (g.cards 3)]) (H1:=B) (aO G k) rfl rfl
 refine⟨I,λD s=>?_⟩
 obtain⟨l,F⟩:=K D s
 have j:Ext H z:=(i.trans q).trans E
 exact⟨_,by have:=l.1;rw[addr_add_mk]at this;exact this,f _ _ ⟨rfl,F H (j.trans (Ext.push' k)) (by have:=j.size;omega)⟩⟩
def Mem.younger(m:Mem)(sg:Seg)(w mark:Int):Int:=if(m.genOf w).2=true/\sg.kind≠3/\(m.genOf w).1<sg.gen then min mark (m.genOf w).1 else mark
theorem kw{sg:Seg}(h:CdAt H A u)(t:aC d):
  bY.C (some ⟨A.c,0,none⟩) sg.gen sg.kind sg.n (sg.cards 0) (sg.cards 1) (sg.cards 2) (sg.cards 3) d i H (λv p=>v=vi (u.mem.younger sg d i)/\Ext H p):=by
 refine HC.via λR j=>bY.link ?_
 unfold bY.pt
 intro y q s e
 have l:Ext H q:=Ext.push' e
 have r:=aO s e
 refine HC.mono (qk (h.ext l) t) ?_
 rintro _ x ⟨rfl,m⟩
 have a:=l.trans m
 have o:=m.get r
 refine⟨_,_,rfl,?_⟩
 by_cases b:(u.mem.genOf d).2=true
 case neg=>
  rw[if_neg b]
  exact j _ _ ⟨by unfold Mem.younger;rw[if_neg (λf=>b f.1)],a⟩
 rw[if_pos b]
 refine⟨sg.kind,by rw[addr_add_mk,aK o];rfl,?_⟩
 by_cases hk:sg.kind=3
 ·rw[if_pos hk];exact j _ _ ⟨by unfold Mem.younger;rw[if_neg (λf=>f.2.1 hk)],a⟩
 rw[if_neg hk]
 refine⟨sg.gen,by rw[aK o];rfl,?_⟩
 by_cases k:(u.mem.genOf d).1<sg.gen
 ·rw[if_pos k]
  refine j _ _ ⟨?_,a⟩
  have g:(if(u.mem.genOf d).1<i then(u.mem.genOf d).1 else i)=min i (u.mem.genOf d).1:=by
   by_cases hm:(u.mem.genOf d).1<i
   ·rw[if_pos hm];omega
   ·rw[if_neg hm];omega
  have w:u.mem.younger sg d i=min i (u.mem.genOf d).1:=by
   unfold Mem.younger;rw[if_pos (show(u.mem.genOf d).2=true/\sg.kind≠3/\(u.mem.genOf d).1<sg.gen from⟨b,hk,k⟩)]
  rw[g,w]
 ·rw[if_neg k];exact j _ _ ⟨by unfold Mem.younger;rw[if_neg (λf=>k f.2.2)],a⟩
def Mem.store(m:Mem)(a w:Int):Mem×Int:=
 if m.used a then(m.set a w).mark (a / 64) (a % 64 / 16) ((m.set a w).younger ((m.set a w).seg (a / 64).toNat) w (((m.set a w).seg (a / 64).toNat).cards (a % 64 / 16).toNat))
 else(m,18)
theorem Mem.set_has:(j.set d i).has B ↔ j.has B:=by
 unfold Mem.has Mem.set
 rw[Mem.upd_limit,Mem.upd_seg]
 by_cases h:B.toNat=(d / 64).toNat
 ·rw[if_pos h];simp only[Seg.set,h]
 ·rw[if_neg h]
theorem lD(h:CdAt H A u)(U:SpOK u)(N:I64 d)(T:aC i):
  cY.C (some ⟨A.c,0,none⟩) d i H (λv B=>v=vi (u.mem.store d i).2/\CdAt B A {u with mem:=(u.mem.store d i).1}/\Fr [A.m,A.s] H B):=by
 refine HC.via λR o=>cY.link ?_
 unfold cY.pt zY
 refine HC.mono (jM h) ?_
 rintro _ H1 ⟨rfl,rfl⟩
 refine⟨_,rfl,?_⟩
 rw[if_neg (by decide)]
 refine⟨_,rfl,_,h.cPtr,_,rfl,_,h.sp.memPtr,?_⟩
 refine HC.mono (gP h.sp.mem U.mem N.2) ?_
 rintro _ t ⟨rfl,b,L⟩
 refine⟨_,rfl,?_⟩
 have a:Fr [A.m,A.s] H1 t:=L.mono (λa1 f _=>by simp at f;simp[f])
 by_cases j:u.mem.used d
 case neg=>
  rw[if_neg j]at b
  have e:u.mem.store d i=(u.mem,18):=by unfold Mem.store;rw[if_neg j]
  rw[e]at o
  rw[if_neg j,if_neg (by decide)]
  exact o _ _ ⟨rfl,h.withMem a (by simp) b,a⟩
 rw[if_pos j]at b
 rw[if_pos j,if_pos rfl]
 have q:=h.withMem a (by simp) b
 have E:=j.1
 have p:(u.mem.set d i).has (d / 64):=Mem.set_has.2 j.2.1
 have V:IntKind.wrap .i64 (Int.tdiv d 64)=d / 64:=by rw[hX E,w64 (by omega)]
 have W:IntKind.wrap .i64 (Int.tdiv (Int.tmod d 64) 16)=d % 64 / 16:=by rw[gU E,hX (by omega),w64 (by omega)]
 refine⟨_,q.cPtr,_,rfl,_,q.sp.memPtr,?_⟩
 rw[V,W]
 refine HC.mono (js q.sp.mem) ?_
 rintro _ X ⟨rfl,F⟩
 rw[if_pos p]
 have w:u.mem.store d i=(u.mem.set d i).mark (d / 64) (d % 64 / 16) ((u.mem.set d i).younger ((u.mem.set d i).seg (d / 64).toNat) i (((u.mem.set d i).seg (d / 64).toNat).cards (d % 64 / 16).toNat)):=by unfold Mem.store;rw[if_pos j]
 rw[w]at o
 generalize S:(u.mem.set d i).seg (d / 64).toNat=sg at o
 refine⟨_,_,_,_,_,_,_,_,rfl,λb1 K O l=>?_⟩
 obtain⟨P,Q⟩:=boxed (vs:=[vi sg.gen,vi sg.kind,vi sg.n,vi (sg.cards 0),vi (sg.cards 1),vi (sg.cards 2),vi (sg.cards 3)]) (H1:=K) (aO O l) rfl rfl
 refine⟨P,λD x=>?_⟩
 obtain⟨g,M⟩:=Q D x
 have k:Ext t D:=M t (F.trans (Ext.push' l)) (by have:=F.size;omega)
 have r:=q.ext k
 refine⟨_,r.cPtr,_,rfl,_,r.sp.memPtr,_,_,_,_,_,_,_,g,⟨by omega,by omega⟩,sg.cards (d % 64 / 16).toNat,?_,?_⟩
 ·have y:(d % 64 / 16).toNat=0\/(d % 64 / 16).toNat=1\/(d % 64 / 16).toNat=2\/(d % 64 / 16).toNat=3:=by omega
  simp only[addr_add_mk,Nat.mul_one,Nat.zero_add]
  have J:=gy g (3+(d % 64 / 16).toNat)
  simp only[addr_add_mk,Nat.zero_add]at J
  refine J _ ?_
  rcases y with e | e | e | e<;>rw[e]<;>rfl
 refine HC.mono (kw (sg:=sg) r T) ?_
 rintro _ Y ⟨rfl,G⟩
 have s:=r.ext G
 refine⟨_,rfl,⟨by rw[addr_add_mk];exact s.cPtr,trivial⟩,⟨by rw[addr_add_mk];exact s.sp.memPtr,trivial⟩,?_⟩
 refine HC.mono (m7 s.sp.mem) ?_
 rintro _ Z ⟨rfl,z,I⟩
 refine⟨_,rfl,o _ _ ⟨rfl,?_,?_⟩⟩
 ·exact s.withMem (I.mono (S':=[A.m,A.s]) (λa1 f _=>by simp at f;simp[f])) (by simp) z
 ·exact(a.trans (k.trans G).fr).trans (I.mono (λa1 f _=>by simp at f;simp[f]))
theorem qp(r:I64 d):
  iM.C d H (λv g=>(¬(8<=d/\d<=1024)/\v=.tuple #[vp none,vi 1]/\Ext H g)\/
   ((8<=d/\d<=1024)/\ ∃b:Blk,v=.tuple #[vp (some ⟨b.c,0,none⟩),vi 0]/\CdAt g b ⟨Mem.fresh d.toNat,λ_ _=>0⟩/\Ext H g/\H.size<=b.s/\b.s<b.m/\b.m<b.sp/\b.sp<b.c)):=by
 refine HC.via λR l=>iM.link ?_
 unfold iM.pt
 refine HC.mono (ph r) ?_
 rintro _ o (⟨hn,rfl,h⟩ | ⟨u,b,rfl,n,h,j,i,k⟩)
 ·refine⟨_,_,rfl,?_⟩
  rw[if_neg (by decide)]
  exact l _ _ (.inl ⟨hn,rfl,h⟩)
 ·refine⟨_,_,rfl,?_⟩
  rw[if_pos rfl]
  intro f w p a
  have t:b.sp<o.size:=by obtain⟨x,q,_⟩:=n.sp;exact bC q
  have e:=n.ext (Ext.push' a)
  refine l _ _ (.inr ⟨u,{b with c:=f},rfl,⟨⟨e.mem,e.ne,e.sp⟩,⟨by show f≠b.sp;omega,by show f≠b.m;omega,by show f≠b.s;omega⟩,aO p a⟩,h.trans (Ext.push' a),j,i,k,by show b.sp<f;omega⟩)
structure Hp where
 sp:Sp
 sy:Value
 en:Value
 ep:Int
variable{o:Option (Blk×Hp)}{E:Hp}
structure HpAt (H:zV) (b:Blk) (x:Hp):Prop where
 cd:CdAt H b x.sp
 ne:b.h≠b.c/\b.h≠b.sp/\b.h≠b.m/\b.h≠b.s
 h:H[b.h]?=some (.cells #[vp (some ⟨b.c,0,none⟩),x.sy,x.en,vu x.ep] 51 (0,0))
theorem HpAt.keep{S:List Nat}{x:Hp}(h:HpAt H A x)(f:Fr S H C)(b: ∀i,i∈S->i ∉ A.all):HpAt C A x:=
 ⟨h.cd.keep f (λa=>b _ a (by simp[Blk.all])) (λa=>b _ a (by simp[Blk.all])) (λa=>b _ a (by simp[Blk.all])) (λa=>b _ a (by simp[Blk.all])),h.ne,f.get (λa=>b _ a (by simp[Blk.all])) h.h⟩
theorem HpAt.ext{b:Blk}(h:HpAt H b E)(f:Ext H C):HpAt C b E:=h.keep (S:=[]) f.fr (by simp)
theorem HpAt.withCd{S:List Nat}(h:HpAt H A E)(f:Fr S H C)(a: ∀i,i∈S->i=A.sp\/i=A.m\/i=A.s)(b:CdAt C A u):HpAt C A {E with sp:=u}:=
 ⟨b,h.ne,f.get (λc=>by have:=a _ c;have:=h.ne;omega) h.h⟩
theorem HpAt.withSp{S:List Nat}(h:HpAt H A E)(f:Fr S H C)(a: ∀i,i∈S->i=A.sp\/i=A.m\/i=A.s)(b:SpAt C A u):HpAt C A {E with sp:=u}:=
 h.withCd f a (h.cd.withSp f (λc=>by have:=a _ c;have:=h.cd.ne;omega) b)
theorem HpAt.withMem{S:List Nat}{m:Mem}(h:HpAt H A E)(f:Fr S H C)(a: ∀i,i∈S->i=A.m\/i=A.s)(b:cR C A.m A.s m):HpAt C A {E with sp:={E.sp with mem:=m}}:=
 h.withCd f (λi c=> .inr (a i c)) (h.cd.withMem f a b)
theorem HpAt.hPtr(h:HpAt H A E):hat H ⟨A.h,0,none⟩=some (vp (some ⟨A.c,0,none⟩)):=by rw[aK h.h];rfl
theorem HpAt.lt{b:Blk}(h:HpAt H b E): ∀i,i∈b.all->i<H.size:=by
 intro i d
 have f:=bC h.h
 have g:=bC h.cd.c
 obtain⟨e,a,_⟩:=h.cd.sp.sp
 have j:=bC a
 have k:=h.cd.sp.mem.lt
 simp[Blk.all]at d
 omega
theorem tupb{p q:Bool}(h:p=q):Value.tuple #[vi d,.bool p]=.tuple #[vi d,.bool q]:=by rw[h]
inductive View (H:zV):zW->Option (Blk×Hp)->Prop
 | nobody:View H none none
 | empty {a:Addr} (h:hat H a=some (vp none)):View H (some a) none
 | real {b:Blk} {x:Hp} (h:HpAt H b x) (ok:SpOK x.sp):View H (some ⟨b.h,0,none⟩) (some (b,x))
def mof:Option (Blk×Hp)->Mem
 | none=>Mem.fresh 0
 | some (_,x)=>x.sp.mem
theorem View.ext(V:View H v o)(e:Ext H C):View C v o:=by
 cases V with
 | nobody=>exact .nobody
 | empty h=>exact .empty (e.hat h)
 | real h a=>exact .real (h.ext e) a
theorem kj: ¬(mof none).has d:=λh=>by have:=h.1;have:d< ((0:Nat):Int):=h.2.1;omega
theorem View.word(V:View H v o)(a:Int):aC ((mof o).get a):=by
 cases V with
 | nobody=>exact(by decide:aC 0)
 | empty h=>exact(by decide:aC 0)
 | real h b=>exact(b.mem.seg _).words _
theorem kX(V:View H v o):eq.C v H (λd b=>d=.bool o.isNone/\b=H):=by
 refine HC.via λR a=>eq.link ?_
 unfold eq.pt
 cases V with
 | nobody=>rw[onPtr_none];exact a _ _ ⟨rfl,rfl⟩
 | empty h=>rw[onPtr_some];refine⟨_,h,?_⟩;rw[onPtr_none];exact a _ _ ⟨rfl,rfl⟩
 | real h c=>rw[onPtr_some];refine⟨_,h.hPtr,?_⟩;rw[onPtr_some];exact a _ _ ⟨rfl,rfl⟩
def Mem.atW(m:Mem)(w tag kind:Int):Prop:=fC w/\w % 8=tag/\m.has (w / 8 / 64)/\(m.seg (w / 8 / 64).toNat).kind=kind/\w / 8 % 64< (m.seg (w / 8 / 64).toNat).n
instance (m:Mem) (w tag kind:Int):Decidable (m.atW w tag kind):=by unfold Mem.atW;infer_instance
theorem Mem.atW.used{m:Mem}{w b a:Int}(h:m.atW w b a)(c:aC w):m.used (w / 8):=⟨by have:=c.1;omega,h.2.2.1,h.2.2.2.2⟩
theorem m8(V:View H v o)(Q:aC d):
  fN.C v d i B H (λa3 w=> ∃a:Int,a3=.tuple #[vi a,.bool (decide ((mof o).atW d i B))]/\((mof o).atW d i B->a=d / 8)/\Ext H w):=by
 refine HC.via λR M=>fN.link ?_
 unfold fN.pt zY
 refine HC.mono (iH Q) ?_
 rintro _ H1 ⟨rfl,z⟩
 have u: ∃(a:Int) (p:Bool),(if(d % 8=1\/d % 8=2\/d % 8=3\/d % 8=6)/\d / 8<65536 then Value.tuple #[vi (d / 8),vT]else .tuple #[vi 0,vF])=.tuple #[vi a,.bool p]/\((fC d/\p=true/\a=d / 8)\/(¬fC d/\p=false)):=by
  by_cases I:(d % 8=1\/d % 8=2\/d % 8=3\/d % 8=6)/\d / 8<65536
  ·rw[if_pos I];exact⟨_,_,rfl,.inl ⟨I,rfl,rfl⟩⟩
  ·rw[if_neg I];exact⟨_,_,rfl,.inr ⟨I,rfl⟩⟩
 obtain⟨a,p,u,W⟩:=u
 refine⟨a,p,u,?_⟩
 refine HC.mono (kX (V.ext z)) ?_
 rintro _ Y ⟨rfl,rfl⟩
 refine⟨_,rfl,?_⟩
 have no: ∀(a:Int) w,¬(mof o).atW d i B->Ext H w->R (.tuple #[vi a,vF]) w:=λa w hn e=>M _ _ ⟨a,by rw[zQ hn],λh=>absurd h hn,e⟩
 cases V with
 | nobody=>rw[if_pos (show(none:Option (Blk×Hp)).isNone=true from rfl)];exact no _ _ (λh=>kj h.2.2.1) z
 | empty h=>rw[if_pos (show(none:Option (Blk×Hp)).isNone=true from rfl)];exact no _ _ (λh=>kj h.2.2.1) z
 | @real b x h ok=>
  rw[if_neg (show ¬(some (b,x)).isNone=true from Bool.false_ne_true)]
  rcases W with⟨G,rfl,rfl⟩ | ⟨G,rfl⟩
  case inr=>rw[if_neg (by decide)];exact no _ _ (λh=>G h.1) z
  rw[if_pos rfl]
  refine HC.mono (hM Q) ?_
  rintro _ Z ⟨rfl,U⟩
  refine⟨_,rfl,?_⟩
  have s:=z.trans U
  by_cases J:d % 8=i
  case neg=>rw[if_neg J];exact no _ _ (λh=>J h.2.1) s
  rw[if_pos J]
  have F:=h.ext s
  have X:d / 8<65536:=G.2
  have D:0<=d / 8:=by have:=Q.1;omega
  refine⟨_,rfl,_,F.hPtr,_,rfl,_,F.cd.cPtr,_,rfl,_,F.cd.sp.memPtr,?_⟩
  rw[hX D,w64 (n:=d / 8 / 64) (by omega),gU D]
  refine HC.mono (js F.cd.sp.mem) ?_
  rintro _ H4 ⟨rfl,S⟩
  show∃a b c a2 e f g q,_/\_
  have hm:mof (some (b,x))=x.sp.mem:=rfl
  rw[hm]at no M
  by_cases j:x.sp.mem.has (d / 8 / 64)
  ·rw[if_pos j,zX j]
   generalize A:x.sp.mem.seg (d / 8 / 64).toNat=k at*
   refine⟨_,_,_,_,_,_,_,_,rfl,λT K N m=>?_⟩
   obtain⟨O,P⟩:=boxed (vs:=[vi k.gen,vi k.kind,vi k.n,vi (k.cards 0),vi (k.cards 1),vi (k.cards 2),vi (k.cards 3)]) (H1:=K) (aO N m) rfl rfl
   refine⟨O,λy t=>?_⟩
   obtain⟨r,L⟩:=P y t
   have l:=s.trans S
   have E:Ext H y:=L H (l.trans (Ext.push' m)) (by have:=l.size;omega)
   rw[if_pos rfl]
   refine⟨k.kind,r.2.1,?_⟩
   by_cases hk:k.kind=B
   ·rw[if_pos hk]
    refine⟨k.n,r.2.2.1,M _ _ ⟨_,?_,λ_=>rfl,E⟩⟩
    refine tupb ?_
    rw[decide_eq_decide]
    unfold Mem.atW
    rw[A]
    exact⟨λh=>⟨G,J,j,hk,h⟩,λh=>h.2.2.2.2⟩
   ·rw[if_neg hk]
    exact no _ _ (λh=>hk (by have:=h.2.2.2.1;rw[A]at this;exact this)) E
  ·rw[if_neg j,zQ j]
   generalize Seg.none=k
   refine⟨_,_,_,_,_,_,_,_,rfl,λT K N m=>?_⟩
   obtain⟨O,P⟩:=boxed (vs:=[vi k.gen,vi k.kind,vi k.n,vi (k.cards 0),vi (k.cards 1),vi (k.cards 2),vi (k.cards 3)]) (H1:=K) (aO N m) rfl rfl
   refine⟨O,λy t=>?_⟩
   obtain⟨r,L⟩:=P y t
   have l:=s.trans S
   have E:Ext H y:=L H (l.trans (Ext.push' m)) (by have:=l.size;omega)
   rw[if_neg (by decide)]
   exact no _ _ (λh=>j h.2.2.1) E
def gJ(x:Int):Prop:=x % 8=5/\(1<=x / 8 % 32/\x / 8 % 32<=13/\x / 256 % 256<=62)
instance (x:Int):Decidable (gJ x):=by unfold gJ;infer_instance
def hk(x:Int):Int:=x / 8 % 32
def hn(x:Int):Int:=x / 256 % 256
def hm(x:Int):Int:=x / 65536
def rawK(k:Int):Int:=if k=2\/k=3 then 3 else 2
theorem nZ:i0.C d H (λv b=>v=vi (rawK d)/\b=H):=by
 refine HC.via λR a=>i0.link ?_
 unfold i0.pt
 by_cases h:d=2\/d=3
 ·rw[if_pos (by simpa using h)];exact a _ _ ⟨by unfold rawK;rw[if_pos h],rfl⟩
 ·rw[if_neg (by simpa using h)];exact a _ _ ⟨by unfold rawK;rw[if_neg h],rfl⟩
def Mem.isObj(m:Mem)(w:Int):Prop:=m.atW w 3 (rawK (hk (m.get (w / 8))))/\gJ (m.get (w / 8))/\w / 8 % 64+hn (m.get (w / 8))< (m.seg (w / 8 / 64).toNat).n
instance (m:Mem) (w:Int):Decidable (m.isObj w):=by unfold Mem.isObj;infer_instance
theorem oD(V:View H v o)(W:aC d):
  bQ.C v d H (λax g=>ax=(if(mof o).isObj d then .tuple #[vi (d / 8),vi (hk ((mof o).get (d / 8))),vi (hn ((mof o).get (d / 8))),vu (hm ((mof o).get (d / 8))),vT]
   else .tuple #[vi 0,vi 0,vi 0,vu 0,vF])/\Ext H g):=by
 refine HC.via λR hR=>bQ.link ?_
 unfold bQ.pt zY
 refine⟨λi g=>(0<=i/\i<=2)/\Ext H g/\(1<=i-> ¬((mof o).isObj d/\rawK (hk ((mof o).get (d / 8)))=2))/\(2<=i-> ¬((mof o).isObj d/\rawK (hk ((mof o).get (d / 8)))=3)),λi _=>(2-i).toNat,⟨by omega,Ext.refl _,λh=>by omega,λh=>by omega⟩,?_⟩
 rintro i H1 ⟨hi,N,n2,n3⟩
 by_cases m:i<2
 case neg=>
  rw[if_neg m]
  refine hR _ _ ⟨?_,N⟩
  rw[if_neg]
  intro hO
  by_cases e:rawK (hk ((mof o).get (d / 8)))=2
  ·exact n2 (by omega) ⟨hO,e⟩
  ·refine n3 (by omega) ⟨hO,?_⟩
   unfold rawK at e⊢
   by_cases h:hk ((mof o).get (d / 8))=2\/hk ((mof o).get (d / 8))=3
   ·rw[if_pos h]
   ·rw[if_neg h]at e;exact absurd rfl e
 rw[if_pos m]
 have X: ∃x:Int,(#[vi 2,vi 3]:Array Value)[i.toNat]?=some (vi x)/\((i=0/\x=2)\/(i=1/\x=3)):=by
  have:i=0\/i=1:=by omega
  rcases this with rfl | rfl
  ·exact⟨2,rfl,.inl ⟨rfl,rfl⟩⟩
  ·exact⟨3,rfl,.inr ⟨rfl,rfl⟩⟩
 obtain⟨x,X,D⟩:=X
 refine⟨x,⟨⟨hi.1,m⟩,X⟩,?_⟩
 have V1:=V.ext N
 rw[w64 (n:=i+1) (by omega)]
 have next: ∀g,Ext H g-> ¬((mof o).isObj d/\rawK (hk ((mof o).get (d / 8)))=x)->((0<=i+1/\i+1<=2)/\Ext H g/\(1<=i+1-> ¬((mof o).isObj d/\rawK (hk ((mof o).get (d / 8)))=2))/\(2<=i+1-> ¬((mof o).isObj d/\rawK (hk ((mof o).get (d / 8)))=3)))/\(2-(i+1)).toNat< (2-i).toNat:=by
  intro g e' E
  refine⟨⟨by omega,e',λ_=>?_,λu=>?_⟩,by omega⟩
  ·rcases D with⟨rfl,rfl⟩ | ⟨rfl,rfl⟩
   ·exact E
   ·exact n2 (by omega)
  ·rcases D with⟨rfl,rfl⟩ | ⟨rfl,rfl⟩
   ·omega
   ·exact E
 refine HC.mono (m8 V1 W) ?_
 rintro _ H2 ⟨a,rfl,ha,e2⟩
 refine⟨_,_,rfl,?_⟩
 have j:=N.trans e2
 by_cases c:(mof o).atW d 3 x
 case neg=>
  rw[if_neg (by simpa using c)]
  exact next _ j (λh=>c (by rw[<-h.2];exact h.1.1))
 rw[if_pos (zX c),ha c]
 have I:0<=d / 8:=by have:=W.1;omega
 have ak:d / 8<65536:=c.1.2
 cases V with
 | nobody=>exact absurd c.2.2.1 kj
 | empty h=>exact absurd c.2.2.1 kj
 | @real b y h Z=>
  have T:mof (some (b,y))=y.sp.mem:=rfl
  rw[T]at*
  have u:=h.ext j
  have hu:y.sp.mem.used (d / 8):=c.used W
  refine⟨_,rfl,_,u.hPtr,_,rfl,_,u.cd.cPtr,_,rfl,_,u.cd.sp.memPtr,?_⟩
  refine HC.mono (hU u.cd.sp.mem Z.mem (by omega)) ?_
  rintro _ H3 ⟨rfl,rfl⟩
  rw[if_pos hu]
  refine⟨_,_,rfl,?_⟩
  have Y:aC (y.sp.mem.get (d / 8)):=(Z.mem.seg _).words _
  refine HC.mono (pb Y) ?_
  rintro _ H4 ⟨rfl,e4⟩
  have t: ∃(p q r:Int) (aw:Bool),(if y.sp.mem.get (d / 8) % 8=5/\(1<=y.sp.mem.get (d / 8) / 8 % 32/\y.sp.mem.get (d / 8) / 8 % 32<=13/\y.sp.mem.get (d / 8) / 256 % 256<=62)then Value.tuple #[vi (y.sp.mem.get (d / 8) / 8 % 32),vi (y.sp.mem.get (d / 8) / 256 % 256),vu (y.sp.mem.get (d / 8) / 65536),vT]else .tuple #[vi 0,vi 0,vu 0,vF])=.tuple #[vi p,vi q,vu r,.bool aw]/\
    ((gJ (y.sp.mem.get (d / 8))/\aw=true/\p=hk (y.sp.mem.get (d / 8))/\q=hn (y.sp.mem.get (d / 8))/\r=hm (y.sp.mem.get (d / 8)))\/(¬gJ (y.sp.mem.get (d / 8))/\aw=false)):=by
   by_cases M:gJ (y.sp.mem.get (d / 8))
   ·have l:y.sp.mem.get (d / 8) % 8=5/\(1<=y.sp.mem.get (d / 8) / 8 % 32/\y.sp.mem.get (d / 8) / 8 % 32<=13/\y.sp.mem.get (d / 8) / 256 % 256<=62):=M
    rw[if_pos l];exact⟨_,_,_,_,rfl,.inl ⟨M,rfl,rfl,rfl,rfl⟩⟩
   ·have l: ¬(y.sp.mem.get (d / 8) % 8=5/\(1<=y.sp.mem.get (d / 8) / 8 % 32/\y.sp.mem.get (d / 8) / 8 % 32<=13/\y.sp.mem.get (d / 8) / 256 % 256<=62)):=M
    rw[if_neg l];exact⟨_,_,_,_,rfl,.inr ⟨M,rfl⟩⟩
  obtain⟨p,q,r,aw,t,P⟩:=t
  refine⟨p,q,r,aw,t,?_⟩
  have K:=u.ext e4
  refine⟨_,K.hPtr,_,rfl,_,K.cd.cPtr,_,rfl,_,K.cd.sp.memPtr,?_⟩
  rw[hX I,w64 (n:=d / 8 / 64) (by omega),gU I]
  refine HC.mono (js K.cd.sp.mem) ?_
  rintro _ H5 ⟨rfl,e5⟩
  have B:y.sp.mem.has (d / 8 / 64):=c.2.2.1
  rw[if_pos B]
  have U:=(Z.mem.seg (d / 8 / 64).toNat).n
  have Q:=c.2.2.2.1
  have S:=c.2.2.2.2
  generalize G:y.sp.mem.seg (d / 8 / 64).toNat=f at U Q S⊢
  refine⟨_,_,_,_,_,_,_,_,rfl,λb1 H6 hb z=>?_⟩
  obtain⟨hc,hs⟩:=boxed (vs:=[vi f.gen,vi f.kind,vi f.n,vi (f.cards 0),vi (f.cards 1),vi (f.cards 2),vi (f.cards 3)]) (H1:=H6) (aO hb z) rfl rfl
  refine⟨hc,λH7 O=>?_⟩
  obtain⟨F,hE⟩:=hs H7 O
  have w:=(j.trans e4).trans e5
  have J:Ext H H7:=hE H (w.trans (Ext.push' z)) (by have:=w.size;omega)
  rcases P with⟨s,rfl,rfl,rfl,rfl⟩ | ⟨s,rfl⟩
  case inr=>
   rw[if_neg (by decide)]
   exact next _ J (λh=>s h.1.2.1)
  rw[if_pos rfl]
  refine HC.mono nZ ?_
  rintro _ H8 ⟨rfl,rfl⟩
  refine⟨_,rfl,?_⟩
  by_cases e:rawK (hk (y.sp.mem.get (d / 8)))=x
  case neg=>rw[if_neg e];exact next _ J (λh=>e h.2)
  rw[if_pos e]
  refine⟨f.n,F.2.2.1,?_⟩
  have ah:0<=hn (y.sp.mem.get (d / 8))/\hn (y.sp.mem.get (d / 8))<=255:=by unfold hn;omega
  rw[w64 (n:=d / 8 % 64+hn (y.sp.mem.get (d / 8))) (by omega)]
  by_cases L:d / 8 % 64+hn (y.sp.mem.get (d / 8))<f.n
  ·rw[if_pos L]
   refine hR _ _ ⟨?_,J⟩
   have A:y.sp.mem.isObj d:=⟨by rw[e];exact c,s,by rw[G];exact L⟩
   have k:(mof (some (b,y))).isObj d:=A
   rw[if_pos k];rfl
  ·rw[if_neg L]
   exact next _ J (λh=>L (by have h3:d / 8 % 64+hn (y.sp.mem.get (d / 8))< (y.sp.mem.seg (d / 8 / 64).toNat).n:=h.1.2.2;rw[G]at h3;exact h3))
def Mem.typ(m:Mem)(w:Int):Int:=if m.isObj w then hk (m.get (w / 8))else 0
def Mem.len(m:Mem)(w:Int):Int:=if m.isObj w then hn (m.get (w / 8))else 0
def Mem.more(m:Mem)(w:Int):Int:=if m.isObj w then hm (m.get (w / 8))else 0
theorem ja(V:View H v o)(b:aC d):
  bQ.C v d H (λf a=>f=.tuple #[vi (if(mof o).isObj d then d / 8 else 0),vi ((mof o).typ d),vi ((mof o).len d),vu ((mof o).more d),.bool (decide ((mof o).isObj d))]/\Ext H a):=by
 refine HC.mono (oD V b) ?_
 rintro _ c ⟨rfl,e⟩
 refine⟨?_,e⟩
 unfold Mem.typ Mem.len Mem.more
 by_cases h:(mof o).isObj d
 ·simp only[if_pos h,zX h]
 ·simp only[if_neg h,zQ h]
theorem iV(V:View H v o)(e:aC d):
  bW.C v d H (λg a=>g=vi ((mof o).typ d)/\Ext H a):=by
 refine HC.via λR c=>bW.link ?_
 unfold bW.pt
 refine HC.mono (ja V e) ?_
 rintro _ f ⟨rfl,b⟩
 exact⟨_,_,_,_,_,rfl,c _ _ ⟨rfl,b⟩⟩
theorem lW(V:View H v o)(e:aC d):
  fk.C v d H (λg a=>g=vi ((mof o).len d)/\Ext H a):=by
 refine HC.via λR c=>fk.link ?_
 unfold fk.pt
 refine HC.mono (ja V e) ?_
 rintro _ f ⟨rfl,b⟩
 exact⟨_,_,_,_,_,rfl,c _ _ ⟨rfl,b⟩⟩
def Mem.fieldE(m:Mem)(w kind i:Int):Int:=if ¬m.isObj w\/m.typ w≠kind then 3 else if i<0\/m.len w<=i then 4 else 0
theorem Mem.isObj.len_lt(h:j.isObj d):0<=hn (j.get (d / 8))/\hn (j.get (d / 8))<=62:=by
 have:=h.2.1;unfold gJ at this;unfold hn;omega
theorem mj(V:View H v o)(j:aC d)(r:I64 B):
  dZ.C v d i B H (λt k=>t=.tuple #[vi (if(mof o).fieldE d i B=0 then d / 8+1+B else 0),vi ((mof o).fieldE d i B)]/\Ext H k):=by
 refine HC.via λR b=>dZ.link ?_
 unfold dZ.pt zY
 refine HC.mono (ja V j) ?_
 rintro _ q ⟨rfl,g⟩
 refine⟨_,_,_,_,_,rfl,?_⟩
 by_cases a: ¬(mof o).isObj d\/(mof o).typ d≠i
 ·rw[if_pos (by simpa using a)]
  have e:(mof o).fieldE d i B=3:=by unfold Mem.fieldE;rw[if_pos a]
  rw[e]at b
  exact b _ _ ⟨rfl,g⟩
 rw[if_neg (by simpa using a)]
 by_cases c:B<0\/(mof o).len d<=B
 ·rw[if_pos (by simpa using c)]
  have e:(mof o).fieldE d i B=4:=by unfold Mem.fieldE;rw[if_neg a,if_pos c]
  rw[e]at b
  exact b _ _ ⟨rfl,g⟩
 rw[if_neg (by simpa using c)]
 have e:(mof o).fieldE d i B=0:=by unfold Mem.fieldE;rw[if_neg a,if_neg c]
 rw[e]at b
 have f:(mof o).isObj d:=Classical.byContradiction λh=>a (.inl h)
 have p:d / 8<65536:=f.1.1.2
 have m:0<=d / 8:=by have:=j.1;omega
 have s:=f.len_lt
 have l:(mof o).len d=hn ((mof o).get (d / 8)):=by unfold Mem.len;rw[if_pos f]
 rw[if_pos f,w64 (n:=d / 8+1) (by omega),w64 (n:=d / 8+1+B) (by omega)]
 exact b _ _ ⟨rfl,g⟩
theorem Mem.isObj.used{m:Mem}{w i:Int}(h:m.isObj w)(e:aC w)(b:(m.seg (w / 8 / 64).toNat).n<=64)(j:0<=i/\i<m.len w):m.used (w / 8+1+i):=by
 have f:0<=w / 8:=by have:=e.1;omega
 have d:m.len w=hn (m.get (w / 8)):=by unfold Mem.len;rw[if_pos h]
 have g:=h.2.2
 have a:(w / 8+1+i) / 64=w / 8 / 64:=by omega
 have c:(w / 8+1+i) % 64=w / 8 % 64+1+i:=by omega
 exact⟨by omega,by rw[a];exact h.1.2.2.1,by rw[a,c];omega⟩
theorem View.n64(V:View H v o)(k:Nat):((mof o).seg k).n<=64:=by
 cases V with
 | nobody=>exact(by decide:(0:Int)<=64)
 | empty h=>exact(by decide:(0:Int)<=64)
 | real h a=>exact(a.mem.seg k).n.2
theorem Mem.fieldE_0(h:j.fieldE d i B=0):j.isObj d/\j.typ d=i/\0<=B/\B<j.len d:=by
 unfold Mem.fieldE at h
 by_cases a: ¬j.isObj d\/j.typ d≠i
 ·rw[if_pos a]at h;cases h
 rw[if_neg a]at h
 by_cases b:B<0\/j.len d<=B
 ·rw[if_pos b]at h;cases h
 ·exact⟨Classical.byContradiction λh=>a (.inl h),Classical.byContradiction λh=>a (.inr h),by omega,by omega⟩
theorem kC{w kind i:Int}(V:View H v o)(m:aC w)(p:I64 i):
  eG.C v w kind i H (λz n=>z=.tuple #[vu (if(mof o).fieldE w kind i=0 then(mof o).get (w / 8+1+i)else 0),vi ((mof o).fieldE w kind i)]/\Ext H n):=by
 refine HC.via λR l=>eG.link ?_
 unfold eG.pt
 refine HC.mono (mj V m p) ?_
 rintro _ t ⟨rfl,f⟩
 refine⟨_,_,rfl,?_⟩
 by_cases a:(mof o).fieldE w kind i=0
 case neg=>rw[if_neg a];exact l _ _ ⟨by rw[if_neg a],f⟩
 rw[if_pos a,if_pos a]
 obtain⟨c,_,g,d⟩:=Mem.fieldE_0 a
 have q:=c.used m (V.n64 _) ⟨g,d⟩
 cases V with
 | nobody=>exact absurd c.1.2.2.1 kj
 | empty h=>exact absurd c.1.2.2.1 kj
 | @real b x h s=>
  have e:=h.ext f
  refine⟨_,rfl,_,e.hPtr,_,rfl,_,e.cd.cPtr,_,rfl,_,e.cd.sp.memPtr,?_⟩
  have y:=c.len_lt
  have r:w / 8<65536:=c.1.1.2
  have j:(mof (some _)).len w=_:=if_pos c
  refine HC.mono (hU e.cd.sp.mem s.mem (by rw[j]at d;omega)) ?_
  rintro _ u ⟨rfl,rfl⟩
  have k:x.sp.mem.used (w / 8+1+i):=q
  rw[if_pos k]
  refine⟨_,_,rfl,l _ _ ⟨?_,f⟩⟩
  rw[if_pos a,a];rfl
def Hp.setMem(x:Hp)(m:Mem):Hp:={x with sp:={x.sp with mem:=m}}
theorem SpOK.withMem(i:SpOK u){m:Mem}(hm:aX m)(f: ∀k,u.mem.has k->m.has k)(a: ∀k,(m.seg k).gen=(u.mem.seg k).gen/\(m.seg k).kind=(u.mem.seg k).kind):SpOK {u with mem:=m}:=
 ⟨hm,λg k=>by
  rcases i.cur g k with h | ⟨b,c,d,e⟩
  ·exact .inl h
  ·exact .inr ⟨b,f _ c,by rw[<-d];exact(a _).1,by rw[<-e];exact(a _).2⟩⟩
theorem Mem.mark_has{a:Int}:(j.mark d i B).1.has a ↔ j.has a:=by
 unfold Mem.mark
 split
 ·exact Iff.rfl
 split
 ·exact Iff.rfl
 ·unfold Mem.has
  show(0<=a/\a< (j.limit:Int)/\((j.upd d.toNat ((j.seg d.toNat).mark i.toNat B)).seg a.toNat).taken≠0) ↔ _
  rw[Mem.upd_seg]
  by_cases h:a.toNat=d.toNat
  ·rw[if_pos h,h];rfl
  ·rw[if_neg h]
theorem Mem.mark_seg{m:Mem}{k c v:Int}(j:Nat):((m.mark k c v).1.seg j).gen=(m.seg j).gen/\((m.mark k c v).1.seg j).kind=(m.seg j).kind/\((m.mark k c v).1.seg j).n=(m.seg j).n/\((m.mark k c v).1.seg j).words=(m.seg j).words:=by
 unfold Mem.mark
 split
 ·exact⟨rfl,rfl,rfl,rfl⟩
 split
 ·exact⟨rfl,rfl,rfl,rfl⟩
 ·show((m.upd k.toNat ((m.seg k.toNat).mark c.toNat v)).seg j).gen=_/\((m.upd k.toNat ((m.seg k.toNat).mark c.toNat v)).seg j).kind=_/\((m.upd k.toNat ((m.seg k.toNat).mark c.toNat v)).seg j).n=_/\((m.upd k.toNat ((m.seg k.toNat).mark c.toNat v)).seg j).words=_
  rw[Mem.upd_seg]
  by_cases h:j=k.toNat
  ·rw[if_pos h,h];exact⟨rfl,rfl,rfl,rfl⟩
  ·rw[if_neg h];exact⟨rfl,rfl,rfl,rfl⟩
theorem Mem.set_seg{m:Mem}{a w:Int}(j:Nat):((m.set a w).seg j).gen=(m.seg j).gen/\((m.set a w).seg j).kind=(m.seg j).kind/\((m.set a w).seg j).n=(m.seg j).n:=by
 unfold Mem.set
 rw[Mem.upd_seg]
 by_cases h:j=(a / 64).toNat
 ·rw[if_pos h,h];exact⟨rfl,rfl,rfl⟩
 ·rw[if_neg h];exact⟨rfl,rfl,rfl⟩
theorem aX.store{m:Mem}(b:aX m)(a:Int){w:Int}(c:aC w):aX (m.store a w).1:=by
 unfold Mem.store
 split
 ·exact(b.set a c).mark _ _ _
 ·exact b
theorem Mem.store_seg{m:Mem}{a w:Int}(j:Nat):((m.store a w).1.seg j).gen=(m.seg j).gen/\((m.store a w).1.seg j).kind=(m.seg j).kind/\((m.store a w).1.seg j).n=(m.seg j).n:=by
 unfold Mem.store
 split
 ·have b:=Mem.mark_seg (m:=m.set a w) (k:=a / 64) (c:=a % 64 / 16) (v:=(m.set a w).younger ((m.set a w).seg (a / 64).toNat) w (((m.set a w).seg (a / 64).toNat).cards (a % 64 / 16).toNat)) j
  have d:=Mem.set_seg (m:=m) (a:=a) (w:=w) j
  exact⟨b.1.trans d.1,b.2.1.trans d.2.1,b.2.2.1.trans d.2.2⟩
 ·exact⟨rfl,rfl,rfl⟩
theorem Mem.store_has:(j.store d i).1.has B ↔ j.has B:=by
 unfold Mem.store
 split
 ·exact Mem.mark_has.trans Mem.set_has
 ·exact Iff.rfl
theorem SpOK.store(b:SpOK u)(a:Int){w:Int}(c:aC w):SpOK {u with mem:=(u.mem.store a w).1}:=
 b.withMem (b.mem.store a c) (λk h=>Mem.store_has.2 h) (λk=>⟨(Mem.store_seg k).1,(Mem.store_seg k).2.1⟩)
def setO(o:Option (Blk×Hp))(w kind i v:Int):Option (Blk×Hp):=
 match o with
 | none=>none
 | some (b,x)=>some (b,x.setMem (if x.sp.mem.fieldE w kind i=0 then(x.sp.mem.store (w / 8+1+i) v).1 else x.sp.mem))
def setE(o:Option (Blk×Hp))(w kind i v:Int):Int:=if(mof o).fieldE w kind i=0 then((mof o).store (w / 8+1+i) v).2 else(mof o).fieldE w kind i
def own(o:Option (Blk×Hp)):List Nat:=match o with | none=> [] | some (b,_)=> [b.sp,b.m,b.s]
theorem n9{K:Int}(V:View H v o)(y:aC d)(A:I64 B)(g:aC K):
  dU.C v d i B K H (λu t=>u=vi (setE o d i B K)/\View t v (setO o d i B K)/\Fr (own o) H t):=by
 refine HC.via λR n=>dU.link ?_
 unfold dU.pt
 refine HC.mono (mj V y A) ?_
 rintro _ G ⟨rfl,k⟩
 refine⟨_,_,rfl,?_⟩
 by_cases a:(mof o).fieldE d i B=0
 case neg=>
  rw[if_neg a]
  have e:setE o d i B K=(mof o).fieldE d i B:=by unfold setE;rw[if_neg a]
  have l:setO o d i B K=o:=by
   unfold setO
   match o,a with
   | none,_=>rfl
   | some (b,x),a=>
    have c: ¬x.sp.mem.fieldE d i B=0:=a
    simp only;rw[if_neg c];rfl
  rw[e,l]at n
  exact n _ _ ⟨rfl,V.ext k,k.fr⟩
 rw[if_pos a,if_pos a]
 obtain⟨f,_,D,q⟩:=Mem.fieldE_0 a
 cases V with
 | nobody=>exact absurd f.1.2.2.1 kj
 | empty h=>exact absurd f.1.2.2.1 kj
 | @real b x h z=>
  have m:=h.ext k
  have J:=f.len_lt
  have F:d / 8<65536:=f.1.1.2
  have E:0<=d / 8:=by have:=y.1;omega
  have s:(mof (some (b,x))).len d=_:=if_pos f
  refine⟨_,rfl,_,m.hPtr,?_⟩
  refine HC.mono (lD m.cd z ⟨by omega,by rw[s]at q;omega⟩ g) ?_
  rintro _ I ⟨rfl,p,w⟩
  refine⟨_,rfl,n _ _ ⟨?_,?_,?_⟩⟩
  ·unfold setE;rw[if_pos a];rfl
  ·have c:x.sp.mem.fieldE d i B=0:=a
   have l:setO (some (b,x)) d i B K=some (b,x.setMem (x.sp.mem.store (d / 8+1+B) K).1):=by unfold setO;simp only;rw[if_pos c]
   rw[l]
   exact .real (m.withCd w (λj r=>by simp at r;omega) p) (z.store _ g)
  ·exact(k.fr (S:=own (some (b,x)))).trans (w.mono (λj r _=>by simp at r;simp[own];omega))
theorem gc.ext{p:zW}{b:List Value}(h:gc H p b)(e:Ext H C):gc C p b:=by
 cases p with
 | none=>exact h
 | some a=>exact e.rowAt h
theorem oa{limit:Int}(p:I64 limit):
  iZ.C limit H (λv g=>(¬(8<=limit/\limit<=1024)/\v=.tuple #[vp none,vi 1]/\Ext H g)\/
   ((8<=limit/\limit<=1024)/\ ∃(b:Blk) (x:Hp),v=.tuple #[vp (some ⟨b.h,0,none⟩),vi 0]/\View g (some ⟨b.h,0,none⟩) (some (b,x))/\x=⟨⟨Mem.fresh limit.toNat,λ_ _=>0⟩,vN,vN,0⟩/\Ext H g/\(∀i,i∈b.all->H.size<=i))):=by
 refine HC.via λR j=>iZ.link ?_
 unfold iZ.pt
 refine HC.mono (qp p) ?_
 rintro _ l (⟨hn,rfl,f⟩ | ⟨r,b,rfl,k,f,u,w,y,z⟩)
 ·refine⟨_,_,rfl,?_⟩
  rw[if_neg (by decide)]
  exact j _ _ (.inl ⟨hn,rfl,f⟩)
 ·refine⟨_,_,rfl,?_⟩
  rw[if_pos rfl]
  intro e t n d
  have q:b.c<l.size:=bC k.c
  have a:=k.ext (Ext.push' d)
  refine j _ _ (.inr ⟨r,{b with h:=e},_,rfl,.real ⟨⟨⟨a.sp.mem,a.sp.ne,a.sp.sp⟩,a.ne,a.c⟩,⟨by show e≠b.c;omega,by show e≠b.sp;omega,by show e≠b.m;omega,by show e≠b.s;omega⟩,aO n d⟩ (qj ⟨by omega,by omega⟩),rfl,f.trans (Ext.push' d),λi o=>?_⟩)
  simp[Blk.all]at o
  have:=f.size
  omega
abbrev wvs(ws:List Int):List Value:=ws.map (Value.int .u64)
theorem jB: ∀a:List Int,jR (wvs a)=true
 | []=>rfl
 | w::a=>by show(true && jR (wvs a))=true;rw[jB a];rfl
structure Grown (m m':Mem) (a n g k:Int):Prop where
 limit:m'.limit=m.limit
 addr:0<=a/\a / 64<m.limit/\a % 64+n<=64
 new:(m'.seg (a / 64).toNat).taken≠0/\(m'.seg (a / 64).toNat).gen=g/\(m'.seg (a / 64).toNat).kind=k/\(m'.seg (a / 64).toNat).n=a % 64+n
 old:(m.seg (a / 64).toNat).taken≠0->(m.seg (a / 64).toNat).gen=g/\(m.seg (a / 64).toNat).kind=k/\(m.seg (a / 64).toNat).n=a % 64/\(m'.seg (a / 64).toNat).words=(m.seg (a / 64).toNat).words/\(m'.seg (a / 64).toNat).cards=(m.seg (a / 64).toNat).cards/\(m'.seg (a / 64).toNat).taken=(m.seg (a / 64).toNat).taken
 fresh:(m.seg (a / 64).toNat).taken=0->a % 64=0
 others: ∀i,i≠(a / 64).toNat->m'.seg i=m.seg i
 free:m.free-1<=m'.free
 count:m'.count<=m.count+1
theorem Mem.bump_ok(e:aX j)(h:(j.bump d i).2.2=0):j.has d/\1<=i/\(j.seg d.toNat).n+i<=64/\j.bump d i=(j.upd d.toNat ((j.seg d.toNat).bump i),d*64+(j.seg d.toNat).n,0):=by
 unfold Mem.bump at*
 by_cases hk:j.has d
 case neg=>rw[if_pos hk]at h;exact absurd h (by show ¬((19:Int)=0);decide)
 rw[if_neg (λc=>c hk)]at h⊢
 by_cases a:i<1
 ·rw[if_pos a]at h;exact absurd h (by show ¬((1:Int)=0);decide)
 rw[if_neg a]at h⊢
 by_cases b:64-(j.seg d.toNat).n<i
 ·rw[if_pos b]at h;exact absurd h (by show ¬((2:Int)=0);decide)
 rw[if_neg b]at h⊢
 exact⟨hk,by omega,by omega,rfl⟩
theorem Mem.bump_can(hk:j.has d)(b:1<=i)(c:(j.seg d.toNat).n+i<=64):(j.bump d i).2.2=0:=by
 unfold Mem.bump
 rw[if_neg (λa=>a hk),if_neg (by omega),if_neg (by omega)]
theorem Sp.alloc_ok(k:SpOK u)(h:(u.alloc d i B).2.2=0):SpOK (u.alloc d i B).1/\Grown u.mem (u.alloc d i B).1.mem (u.alloc d i B).2.1 B d i:=by
 have M:=k.mem.lim
 unfold Sp.alloc at*
 by_cases hm:may d i B
 case neg=>rw[if_pos hm]at h;exact absurd h (by show ¬((1:Int)=0);decide)
 rw[if_neg (λP=>P hm)]at h⊢
 have R:=hm.1
 have hk:0<=i/\i<=3:=by have:=hm.2;omega
 have hn:1<=B/\B<=63:=by have:=hm.2;omega
 by_cases E:u.cur d.toNat i.toNat≠0/\(u.mem.bump (u.cur d.toNat i.toNat-1) B).2.2=0
 ·rw[if_pos E]at h⊢
  obtain⟨z,N,n,x⟩:=Mem.bump_ok k.mem E.2
  rcases k.cur d.toNat i.toNat with p | ⟨I,f,C,D⟩
  ·exact absurd p E.1
  generalize S:u.cur d.toNat i.toNat-1=j at*
  have Q:=(k.mem.seg j.toNat).n
  have T:=f.1
  have v:(j*64+(u.mem.seg j.toNat).n) / 64=j:=by omega
  have w:(j*64+(u.mem.seg j.toNat).n) % 64=(u.mem.seg j.toNat).n:=by omega
  have c:=k.mem.bump j B
  rw[x]at c⊢
  refine⟨?_,?_⟩
  ·refine k.withMem c (λU g=>⟨g.1,g.2.1,?_⟩) (λU=>?_)
   ·rw[Mem.upd_seg]
    by_cases e:U.toNat=j.toNat
    ·rw[if_pos e];exact f.2.2
    ·rw[if_neg e];exact g.2.2
   ·rw[Mem.upd_seg]
    by_cases e:U=j.toNat
    ·rw[if_pos e,e];exact⟨rfl,rfl⟩
    ·rw[if_neg e];exact⟨rfl,rfl⟩
  ·refine⟨rfl,⟨by show 0<=j*64+(u.mem.seg j.toNat).n;omega,by show(j*64+(u.mem.seg j.toNat).n) / 64<_;rw[v];exact f.2.1,by show(j*64+(u.mem.seg j.toNat).n) % 64+B<=64;rw[w];exact n⟩,?_,?_,?_,?_,by show _<=u.mem.free;omega,by show u.mem.count<=_;omega⟩<;>simp only[v,w]
   ·rw[Mem.upd_same];exact⟨f.2.2,by rw[show((u.mem.seg j.toNat).bump B).gen=_ from C];omega,by rw[show((u.mem.seg j.toNat).bump B).kind=_ from D];omega,rfl⟩
   ·intro _;rw[Mem.upd_same];refine⟨by rw[C];omega,by rw[D];omega,?_⟩;first | exact⟨rfl,rfl,rfl,rfl⟩ | exact⟨trivial,rfl,rfl,rfl⟩
   ·intro p;exact absurd p f.2.2
   ·intro U g;rw[Mem.upd_other _ _ g]
 rw[if_neg E]at h⊢
 by_cases s:(u.mem.take d i).2.2=0
 case neg=>rw[if_neg s]at h;exact absurd h s
 rw[if_pos s]at h⊢
 have l:=k.mem.take d i
 have t:u.mem.take d i=({u.mem with count:=u.mem.count+1,free:=u.mem.free-1}.upd u.mem.first (Seg.new d i (u.mem.count+1)),(u.mem.first:Int),0)/\u.mem.free≠0:=by
  unfold Mem.take at s⊢
  rw[if_neg (by omega)]at s⊢
  by_cases n:u.mem.free=0
  ·rw[if_pos n]at s;exact absurd s (by show ¬((2:Int)=0);decide)
  ·rw[if_neg n];exact⟨rfl,n⟩
 obtain⟨t,q⟩:=t
 obtain⟨O,y⟩:=Mem.first_spec k.mem q
 rw[t]at h l⊢
 generalize b:({u.mem with count:=u.mem.count+1,free:=u.mem.free-1}:Mem).upd u.mem.first (Seg.new d i (u.mem.count+1))=o at*
 simp only at h l⊢
 have J:=k.mem.count
 have G:o.seg u.mem.first=Seg.new d i (u.mem.count+1):=by rw[<-b,Mem.upd_same]
 have m: ∀U,U≠u.mem.first->o.seg U=u.mem.seg U:=λU g=>by rw[<-b,Mem.upd_other _ _ g]
 have r:o.limit=u.mem.limit:=by rw[<-b];rfl
 have L:o.free=u.mem.free-1:=by rw[<-b];rfl
 have K:o.count=u.mem.count+1:=by rw[<-b];rfl
 obtain⟨z,N,n,x⟩:=Mem.bump_ok l h
 have H:((u.mem.first:Int)).toNat=u.mem.first:=by omega
 rw[H,G]at x n
 have F:(Seg.new d i (u.mem.count+1)).n=0:=rfl
 rw[F]at x n
 have c:=l.bump u.mem.first B
 rw[x]at c⊢
 have v:((u.mem.first:Int)*64+0) / 64=u.mem.first:=by omega
 have w:((u.mem.first:Int)*64+0) % 64=0:=by omega
 refine⟨⟨c,λU j=>?_⟩,?_⟩
 ·show(u.setCur d.toNat i.toNat ((u.mem.first:Int)+1)).cur U j=0\/_
  simp only[Sp.setCur]
  by_cases A:U=d.toNat/\j=i.toNat
  ·rw[if_pos A]
   refine .inr ⟨by omega,⟨by omega,by rw[Mem.upd_limit,r];omega,?_⟩,?_,?_⟩
   ·rw[show((u.mem.first:Int)+1-1).toNat=u.mem.first by omega,Mem.upd_same];show u.mem.count+1≠0;omega
   ·rw[show((u.mem.first:Int)+1-1).toNat=u.mem.first by omega,Mem.upd_same];show d=_;omega
   ·rw[show((u.mem.first:Int)+1-1).toNat=u.mem.first by omega,Mem.upd_same];show i=_;omega
  ·rw[if_neg A]
   rcases k.cur U j with p | ⟨I,f,C,D⟩
   ·exact .inl p
   ·have a:(u.cur U j-1).toNat≠u.mem.first:=λe=>f.2.2 (by rw[e];exact y)
    refine .inr ⟨I,⟨f.1,by rw[Mem.upd_limit,r];exact f.2.1,?_⟩,?_,?_⟩
    ·rw[Mem.upd_other _ _ a,m _ a];exact f.2.2
    ·rw[Mem.upd_other _ _ a,m _ a];exact C
    ·rw[Mem.upd_other _ _ a,m _ a];exact D
 ·refine⟨by show o.limit=_;exact r,⟨by show 0<=(u.mem.first:Int)*64+0;omega,by show((u.mem.first:Int)*64+0) / 64<_;rw[v];omega,by show((u.mem.first:Int)*64+0) % 64+B<=64;rw[w];omega⟩,?_,?_,?_,?_,by show _<=o.free;omega,by show o.count<=_;omega⟩<;>simp only[v,w,H]
  ·rw[Mem.upd_same];exact⟨by show u.mem.count+1≠0;omega,rfl,rfl,rfl⟩
  ·intro p;exact absurd y p
  ·intro _;trivial
  ·intro U g;rw[Mem.upd_other _ _ g,m _ g]
theorem Sp.alloc_can(e:SpOK u)(hm:may d i B)(j:1<=u.mem.free):(u.alloc d i B).2.2=0:=by
 unfold Sp.alloc
 rw[if_neg (λh=>h hm)]
 by_cases b:u.cur d.toNat i.toNat≠0/\(u.mem.bump (u.cur d.toNat i.toNat-1) B).2.2=0
 ·rw[if_pos b]
 rw[if_neg b]
 have k:=hm.1
 have hk:0<=i/\i<=3:=by have:=hm.2;omega
 have hn:1<=B/\B<=63:=by have:=hm.2;omega
 have c:=e.mem.count
 have a:u.mem.take d i=({u.mem with count:=u.mem.count+1,free:=u.mem.free-1}.upd u.mem.first (Seg.new d i (u.mem.count+1)),(u.mem.first:Int),0):=by
  unfold Mem.take
  rw[if_neg (by omega),if_neg (by omega)]
 obtain⟨g,f⟩:=Mem.first_spec e.mem (by omega:u.mem.free≠0)
 rw[a,if_pos rfl]
 refine Mem.bump_can ⟨by show(0:Int)<=(u.mem.first:Int);omega,by show(u.mem.first:Int)< (u.mem.limit:Int);omega,?_⟩ hn.1 ?_
 ·show((Mem.upd _ _ _).seg ((u.mem.first:Int)).toNat).taken≠0
  rw[show((u.mem.first:Int)).toNat=u.mem.first by omega,Mem.upd_same];show u.mem.count+1≠0;omega
 ·show((Mem.upd _ _ _).seg ((u.mem.first:Int)).toNat).n+B<=64
  rw[show((u.mem.first:Int)).toNat=u.mem.first by omega,Mem.upd_same];show 0+B<=64;omega
theorem Sp.alloc_fail(c:SpOK u)(h:(u.alloc d i B).2.2≠0):(u.alloc d i B).1=u:=by
 by_cases hm:may d i B
 case neg=>unfold Sp.alloc;rw[if_pos hm]
 by_cases e:u.mem.free=0
 ·have g:=hm.1
  have hk:0<=i/\i<=3:=by have:=hm.2;omega
  unfold Sp.alloc at*
  rw[if_neg (λf=>f hm)]at h⊢
  by_cases b:u.cur d.toNat i.toNat≠0/\(u.mem.bump (u.cur d.toNat i.toNat-1) B).2.2=0
  ·rw[if_pos b]at h;exact absurd rfl h
  rw[if_neg b]at h⊢
  have a:u.mem.take d i=(u.mem,0,2):=by unfold Mem.take;rw[if_neg (by omega),if_pos e]
  rw[a,if_neg (by decide: ¬((2:Int)=0))]
 ·have:0<=u.mem.free:=by rw[c.mem.free];omega
  exact absurd (Sp.alloc_can c hm (by omega)) h
def Mem.sets(m:Mem)(a:Int):List Int->Mem
 | []=>m
 | w::ws=>(if m.used a then m.set a w else m).sets (a+1) ws
theorem Mem.sets_snoc: ∀(b:List Int) (m:Mem) (a w:Int),m.sets a (b++[w])=if(m.sets a b).used (a+b.length)then(m.sets a b).set (a+b.length) w else m.sets a b
 | [],m,a,w=>by simp[Mem.sets]
 | u::b,m,a,w=>by
  simp only[List.cons_append,Mem.sets,List.length_cons]
  rw[Mem.sets_snoc b,show a+1+(b.length:Int)=a+((b.length+1:Nat):Int)by omega]
  rfl
theorem aX.sets: ∀(ws:List Int) {m:Mem} (b:aX m) (a:Int),(∀w∈ws,aC w)->aX (m.sets a ws)
 | [],m,b,a,_=>b
 | w::ws,m,b,a,h=>by
  simp only[Mem.sets]
  refine aX.sets ws ?_ _ (λu c=>h u (List.mem_cons_of_mem _ c))
  split
  ·exact b.set a (h w List.mem_cons_self)
  ·exact b
structure aY (m m':Mem):Prop where
 limit:m'.limit=m.limit
 seg: ∀j,(m'.seg j).gen=(m.seg j).gen/\(m'.seg j).kind=(m.seg j).kind/\(m'.seg j).n=(m.seg j).n/\(m'.seg j).taken=(m.seg j).taken/\(m'.seg j).cards=(m.seg j).cards
 free:m'.free=m.free
 count:m'.count=m.count
theorem aY.refl(m:Mem):aY m m:=⟨rfl,λ_=>⟨rfl,rfl,rfl,rfl,rfl⟩,rfl,rfl⟩
theorem aY.trans{a b c:Mem}(h:aY a b)(k:aY b c):aY a c:=
 ⟨k.limit.trans h.limit,λj=>⟨(k.seg j).1.trans (h.seg j).1,(k.seg j).2.1.trans (h.seg j).2.1,(k.seg j).2.2.1.trans (h.seg j).2.2.1,(k.seg j).2.2.2.1.trans (h.seg j).2.2.2.1,(k.seg j).2.2.2.2.trans (h.seg j).2.2.2.2⟩,k.free.trans h.free,k.count.trans h.count⟩
theorem aY.set(m:Mem)(a w:Int):aY m (m.set a w):=⟨rfl,λj=>by
 unfold Mem.set;rw[Mem.upd_seg]
 by_cases h:j=(a / 64).toNat
 ·rw[if_pos h,h];exact⟨rfl,rfl,rfl,rfl,rfl⟩
 ·rw[if_neg h];exact⟨rfl,rfl,rfl,rfl,rfl⟩,rfl,rfl⟩
theorem aY.sets: ∀(ws:List Int) (m:Mem) (a:Int),aY m (m.sets a ws)
 | [],m,a=>aY.refl m
 | w::ws,m,a=>by
  simp only[Mem.sets]
  refine aY.trans ?_ (aY.sets ws _ _)
  split
  ·exact aY.set m a w
  ·exact aY.refl m
theorem aY.has{a:Mem}(h:aY j a){k:Int}:a.has k ↔ j.has k:=by
 unfold Mem.has;rw[h.limit,(h.seg _).2.2.2.1]
theorem aY.used{m b:Mem}(h:aY m b){a:Int}:b.used a ↔ m.used a:=by
 unfold Mem.used;rw[h.has,(h.seg _).2.2.1]
theorem Mem.set_get{m:Mem}(x:Int)(f:0<=x)(c:0<=d):(m.set d i).get x=if x=d then i else m.get x:=by
 unfold Mem.get Mem.set
 rw[Mem.upd_seg]
 by_cases a:(x / 64).toNat=(d / 64).toNat
 ·rw[if_pos a]
  simp only[Seg.set]
  by_cases b:(x % 64).toNat=(d % 64).toNat
  ·rw[if_pos b,if_pos (by omega)]
  ·rw[if_neg b,if_neg (by intro e;subst e;exact b rfl),a]
 ·rw[if_neg a,if_neg (by intro e;subst e;exact a rfl)]
theorem Mem.sets_get: ∀(b:List Int) {m:Mem} {a:Int} (x:Int),0<=x->0<=a->(∀i:Nat,i<b.length->m.used (a+i))->(m.sets a b).get x=if a<=x/\x<a+b.length then b.getD (x-a).toNat 0 else m.get x
 | [],m,a,x,hx,ha,hu=>by simp only[Mem.sets];rw[if_neg (by simp only[List.length_nil];omega)]
 | w::b,m,a,x,hx,ha,hu=>by
  have e:m.used a:=by have:=hu 0 (by simp);simpa using this
  simp only[Mem.sets]
  rw[if_pos e,Mem.sets_get b x hx (by omega) (λi f=>(aY.set m a w).used.2 (by have:=hu (i+1) (by simp;omega);rw[show a+1+(i:Int)=a+((i+1:Nat):Int)by omega];exact this))]
  rw[Mem.set_get x hx ha]
  by_cases c:x=a
  ·subst c
   rw[if_neg (by omega),if_pos rfl,if_pos ⟨by omega,by simp;omega⟩]
   simp
  ·by_cases d:a+1<=x/\x<a+1+b.length
   ·rw[if_pos d,if_pos ⟨by omega,by simp;omega⟩]
    have:(x-a).toNat=(x-(a+1)).toNat+1:=by omega
    rw[this];simp
   ·rw[if_neg d,if_neg c,if_neg (by simp;omega)]
def jk(tag addr:Int):Int×Int:=if ¬(tag=1\/tag=2\/tag=3\/tag=6)then(0,1)else if 0<=addr/\addr<65536 then(addr*8+tag,0)else(0,18)
def Sp.put(s:Sp)(kind tag:Int)(ws:List Int):Sp×Int×Int:=
 if(s.alloc 0 kind ws.length).2.2=0 then({(s.alloc 0 kind ws.length).1 with mem:=(s.alloc 0 kind ws.length).1.mem.sets (s.alloc 0 kind ws.length).2.1 ws},jk tag (s.alloc 0 kind ws.length).2.1)
 else(s,0,(s.alloc 0 kind ws.length).2.2)
def putO(o:Option (Blk×Hp))(kind tag:Int)(ws:List Int):Option (Blk×Hp):=
 match o with
 | none=>none
 | some (b,x)=>some (b,{x with sp:=(x.sp.put kind tag ws).1})
def putR(o:Option (Blk×Hp))(kind tag:Int)(ws:List Int):Int×Int:=
 match o with
 | none=>(0,2)
 | some (_,x)=>(x.sp.put kind tag ws).2
def pi(o:Option (Blk×Hp)):Prop:=(mof o).count<4611686018427387904
theorem SpOK.sets(b:SpOK u)(a:Int){ws:List Int}(c: ∀w∈ws,aC w):SpOK {u with mem:=u.mem.sets a ws}:=
 b.withMem (aX.sets ws b.mem a c) (λk h=>(aY.sets ws u.mem a).has.2 h) (λk=>⟨((aY.sets ws u.mem a).seg k).1,((aY.sets ws u.mem a).seg k).2.1⟩)
theorem lX{t:zW}{ws:List Int}(V:View H v o)(c:gc H t (wvs ws))(E:k=ws.length)(hw: ∀w∈ws,aC w)
  (hd: ∀ai,ai∈blks t->ai ∉ own o) (hc:pi o) (ht:I64 i) (hl:ws.length<=1000):
  eZ.C v d i t k z H (λaj u=>aj=.tuple #[vu (putR o d i ws).1,vi (putR o d i ws).2]/\View u v (putO o d i ws)/\Fr (own o) H u):=by
 subst E
 refine HC.via λR r=>eZ.link ?_
 unfold eZ.pt zY
 refine HC.mono (kX V) ?_
 rintro _ U ⟨rfl,rfl⟩
 refine⟨_,rfl,?_⟩
 cases V with
 | nobody=>rw[if_pos (show(none:Option (Blk×Hp)).isNone=true from rfl)];exact r _ _ ⟨rfl,.nobody,Fr.refl _ _⟩
 | empty h=>rw[if_pos (show(none:Option (Blk×Hp)).isNone=true from rfl)];exact r _ _ ⟨rfl,.empty h,Fr.refl _ _⟩
 | @real b x h G=>
  rw[if_neg (show ¬(some (b,x)).isNone=true from Bool.false_ne_true)]
  refine⟨_,rfl,_,h.hPtr,_,rfl,_,h.cd.cPtr,?_⟩
  refine HC.mono (jS h.cd.sp G hc) ?_
  rintro _ H2 ⟨rfl,P,Y⟩
  refine⟨_,_,rfl,?_⟩
  have f:=h.withSp Y (λai B=>by simp at B;omega) P
  have A:Fr (own (some (b,x))) U H2:=Y.mono (λai B _=>by simp at B;simp[own];omega)
  by_cases s:(x.sp.alloc 0 d ws.length).2.2=0
  case neg=>
   rw[if_neg s]
   have e:x.sp.put d i ws=(x.sp,0,(x.sp.alloc 0 d ws.length).2.2):=by unfold Sp.put;rw[if_neg s]
   have J:putR (some (b,x)) d i ws=(0,(x.sp.alloc 0 d ws.length).2.2):=by show(x.sp.put d i ws).2=_;rw[e]
   have K:putO (some (b,x)) d i ws=some (b,x):=by show some (b,{x with sp:=(x.sp.put d i ws).1})=_;rw[e]
   rw[J,K]at r
   rw[Sp.alloc_fail G s]at f
   exact r _ _ ⟨rfl,.real f G,A⟩
  rw[if_pos s]
  obtain⟨I,gr⟩:=Sp.alloc_ok G s
  have e:x.sp.put d i ws=({(x.sp.alloc 0 d ws.length).1 with mem:=(x.sp.alloc 0 d ws.length).1.mem.sets (x.sp.alloc 0 d ws.length).2.1 ws},jk i (x.sp.alloc 0 d ws.length).2.1):=by unfold Sp.put;rw[if_pos s]
  have J:putR (some (b,x)) d i ws=jk i (x.sp.alloc 0 d ws.length).2.1:=by show(x.sp.put d i ws).2=_;rw[e]
  have K:putO (some (b,x)) d i ws=some (b,{x with sp:={(x.sp.alloc 0 d ws.length).1 with mem:=(x.sp.alloc 0 d ws.length).1.mem.sets (x.sp.alloc 0 d ws.length).2.1 ws}}):=by show some (b,{x with sp:=(x.sp.put d i ws).1})=_;rw[e]
  rw[J,K]at r
  generalize ab:(x.sp.alloc 0 d ws.length).1=T at*
  generalize a8:(x.sp.alloc 0 d ws.length).2.1=a at*
  have a0:=G.mem.lim
  have ag:=gr.addr
  refine⟨λai u=>(0<=ai/\ai<=ws.length)/\HpAt u b {x with sp:={T with mem:=T.mem.sets a (ws.take ai.toNat)}}/\Fr (own (some (b,x))) U u,λai _=>(ws.length-ai).toNat,⟨by omega,by simpa[Mem.sets]using f,A⟩,?_⟩
  rintro ai W ⟨B,g,L⟩
  by_cases m:ai< (ws.length:Int)
  ·rw[if_pos m]
   have D:ai.toNat<ws.length:=by omega
   have p:gc W t (wvs ws):=by
    cases t with
    | none=>exact c
    | some S=>exact L.rowAt (hd _ (by simp)) c
   cases t with
   | none=>
    exfalso
    have e:wvs ws=[]:=c
    have:ws.length=0:=by simpa[wvs]using congrArg List.length e
    omega
   | some S=>
    refine⟨S,rfl,⟨B.1,m⟩,ws[ai.toNat],?_,?_⟩
    ·have:=gy (show aP W S 0 (wvs ws)from p) ai.toNat (vu (ws[ai.toNat])) (by simp[wvs,D])
     rw[Nat.mul_one];rw[Nat.zero_add]at this;exact this
    refine⟨_,g.hPtr,_,rfl,_,g.cd.cPtr,_,rfl,_,g.cd.sp.memPtr,?_⟩
    have F:aX (T.mem.sets a (ws.take ai.toNat)):=aX.sets _ I.mem a (λw Q=>hw w (List.mem_of_mem_take Q))
    rw[w64 (n:=a+ai) (by omega),w64 (n:=ai+1) (by omega)]
    refine HC.mono (gP g.cd.sp.mem F (by omega)) ?_
    rintro _ H4 ⟨rfl,O,Z⟩
    refine⟨_,rfl,⟨by omega,?_,L.trans (Z.mono (λj N _=>by simp at N;simp[own];omega))⟩,by show((ws.length:Int)-(ai+1)).toNat< ((ws.length:Int)-ai).toNat;omega⟩
    have h4:=g.withMem Z (λj N=>by simp at N;omega) O
    have et:ws.take (ai+1).toNat=ws.take ai.toNat++[ws[ai.toNat]]:=by
     rw[show(ai+1).toNat=ai.toNat+1 by omega,List.take_succ_eq_append_getElem D]
    have el:((ws.take ai.toNat).length:Int)=ai:=by rw[List.length_take];omega
    rw[et,Mem.sets_snoc,el]
    exact h4
  ·rw[if_neg m]
   have M:ai.toNat=ws.length:=by omega
   rw[M,List.take_length]at g
   refine HC.mono (jV ht (by omega)) ?_
   rintro _ H5 ⟨rfl,X⟩
   have ev:(if ¬(i=1\/i=2\/i=3\/i=6)then Value.tuple #[vu 0,vi 1]else if 0<=a/\a<65536 then .tuple #[vu (a*8+i),vi 0]else .tuple #[vu 0,vi 18])=.tuple #[vu (jk i a).1,vi (jk i a).2]:=by
    by_cases q:i=1\/i=2\/i=3\/i=6
    ·by_cases f:0<=a/\a<65536
     ·have y:jk i a=(a*8+i,0):=by unfold jk;rw[if_neg (λl=>l q),if_pos f]
      rw[y,if_neg (λl=>l q),if_pos f]
     ·have y:jk i a=(0,18):=by unfold jk;rw[if_neg (λl=>l q),if_neg f]
      rw[y,if_neg (λl=>l q),if_neg f]
    ·have y:jk i a=(0,1):=by unfold jk;rw[if_pos q]
     rw[y,if_pos q]
   rw[ev]
   exact⟨_,_,rfl,r _ _ ⟨rfl,.real (g.ext X) (I.sets a hw),L.trans X.fr⟩⟩
def Sp.make(s:Sp)(kind more:Int)(ws:List Int):Sp×Int×Int:=
 if ¬((1<=kind/\kind<=13)/\more<281474976710656)then(s,0,1)
 else if 62<ws.length then(s,0,6)
 else s.put (rawK kind) 3 ((more*65536+ws.length*256+kind*8+5)::ws)
def jC(o:Option (Blk×Hp))(kind more:Int)(ws:List Int):Option (Blk×Hp):=
 if ¬((1<=kind/\kind<=13)/\more<281474976710656)then o
 else if 62<ws.length then o
 else putO o (rawK kind) 3 ((more*65536+ws.length*256+kind*8+5)::ws)
def ix(o:Option (Blk×Hp))(kind more:Int)(ws:List Int):Int×Int:=
 if ¬((1<=kind/\kind<=13)/\more<281474976710656)then(0,1)
 else if 62<ws.length then(0,6)
 else putR o (rawK kind) 3 ((more*65536+ws.length*256+kind*8+5)::ws)
theorem View.own_lt(V:View H v o): ∀i,i∈own o->i<H.size:=by
 cases V with
 | nobody=>intro i a;simp[own]at a
 | empty h=>intro i a;simp[own]at a
 | real h b=>intro i a;exact h.lt i (by simp[own]at a;simp[Blk.all];omega)
theorem j9{y:zW}{kind more:Int}{ws:List Int}(V:View H v o)(b:gc H y (wvs ws))(u:k=ws.length)(T: ∀w∈ws,aC w)
  (hk:I64 kind) (m:aC more) (Q:pi o) (hl:ws.length<=1000000):
  dK.C v kind more y k z H (λa9 G=>a9=.tuple #[vu (ix o kind more ws).1,vi (ix o kind more ws).2]/\View G v (jC o kind more ws)/\Fr (own o) H G):=by
 subst u
 refine HC.via λR q=>dK.link ?_
 unfold dK.pt
 refine HC.mono (kP hk (by decide) m) ?_
 rintro _ W ⟨rfl,r⟩
 rw[o9]
 refine⟨_,_,rfl,?_⟩
 by_cases a:(1<=kind/\kind<=13)/\more<281474976710656
 case neg=>
  have g: ¬((1<=kind/\kind<=13)/\((0:Int)<=0/\(0:Int)<=62)/\more<281474976710656):=λh=>a ⟨h.1,h.2.2⟩
  rw[if_neg g,if_neg (by decide)]
  have e:ix o kind more ws=(0,1):=by unfold ix;rw[if_pos a]
  have f:jC o kind more ws=o:=by unfold jC;rw[if_pos a]
  rw[e,f]at q
  exact q _ _ ⟨rfl,V.ext r,r.fr⟩
 have g:(1<=kind/\kind<=13)/\((0:Int)<=0/\(0:Int)<=62)/\more<281474976710656:=⟨a.1,by decide,a.2⟩
 rw[if_pos g,if_pos rfl]
 by_cases x:62<ws.length
 ·rw[if_pos (by omega)]
  have e:ix o kind more ws=(0,6):=by unfold ix;rw[if_neg (λl=>l a),if_pos x]
  have f:jC o kind more ws=o:=by unfold jC;rw[if_neg (λl=>l a),if_pos x]
  rw[e,f]at q
  exact q _ _ ⟨rfl,V.ext r,r.fr⟩
 rw[if_neg (by omega)]
 refine HC.mono (kP hk (by omega) m) ?_
 rintro _ X ⟨rfl,f⟩
 rw[o9]
 refine⟨_,_,rfl,?_⟩
 have A:(1<=kind/\kind<=13)/\((0:Int)<=(ws.length:Int)/\(ws.length:Int)<=62)/\more<281474976710656:=⟨a.1,by omega,a.2⟩
 rw[if_pos A]
 refine HC.mono nZ ?_
 rintro _ Y ⟨rfl,rfl⟩
 refine⟨_,rfl,?_⟩
 intro b4 J B t
 have c:=r.trans f
 have d:=c.trans (Ext.push' t)
 have P:=aO B t
 have S:=m.1
 have n:gc J y (wvs ws):=by
  cases y with
  | none=>exact b
  | some la=>exact d.rowAt b
 refine fU (ys:=wvs ws) (xs:=[vu (more*65536+ws.length*256+kind*8+5)]) ⟨rfl,_,P,rfl,Nat.le_refl _,rfl,λj hj=>?_⟩ n (by simp[wvs]) (jB ws) rfl (by omega) ?_
 ·have:j=0:=by omega
  subst this;rfl
 intro p5 c5 K U N D
 have s:Ext H K:=d.fr_trans N (λi E=>by simp at E;have:=c.size;omega)
 have L:=V.ext s
 refine HC.mono (lX (ws:=(more*65536+ws.length*256+kind*8+5)::ws) L U.src (by simp;omega) (λw p=>?_) (λi E F=>?_) Q (by decide) (by simp;omega)) ?_
 ·rcases List.mem_cons.1 p with rfl | p
  ·exact⟨by omega,by omega⟩
  ·exact T w p
 ·have h6:=V.own_lt i F
  have h7:=d.size
  have h8:=c.size
  rcases D i E with I | I
  ·simp at I;omega
  ·omega
 rintro _ Z ⟨rfl,M,O⟩
 refine⟨_,_,rfl,?_⟩
 have e:ix o kind more ws=putR o (rawK kind) 3 ((more*65536+ws.length*256+kind*8+5)::ws):=by unfold ix;rw[if_neg (λl=>l a),if_neg x]
 have f:jC o kind more ws=putO o (rawK kind) 3 ((more*65536+ws.length*256+kind*8+5)::ws):=by unfold jC;rw[if_neg (λl=>l a),if_neg x]
 rw[e,f]at q
 exact q _ _ ⟨rfl,M,s.fr.trans O⟩
def Sp.cf(s:Sp):Int:=s.mem.count+s.mem.free
theorem Sp.cf_count(a:SpOK u)(h:u.cf<4611686018427387904):u.mem.count<4611686018427387904:=by
 have:=a.mem.free;unfold Sp.cf at h;omega
theorem Mem.take_cf(m:Mem)(g k:Int):(m.take g k).1.count+(m.take g k).1.free=m.count+m.free:=by
 unfold Mem.take
 split
 ·rfl
 split
 ·rfl
 ·show m.count+1+(m.free-1)=_;omega
theorem Sp.alloc_cf(s:Sp)(g k n:Int):(s.alloc g k n).1.cf=s.cf:=by
 unfold Sp.alloc Sp.cf
 split
 ·rfl
 split
 ·show(s.mem.bump _ _).1.count+(s.mem.bump _ _).1.free=_
  rw[(Mem.bump_lim _ _ _).2.1,(Mem.bump_lim _ _ _).2.2]
 split
 ·show((s.mem.take g k).1.bump _ _).1.count+((s.mem.take g k).1.bump _ _).1.free=_
  rw[(Mem.bump_lim _ _ _).2.1,(Mem.bump_lim _ _ _).2.2]
  exact Mem.take_cf _ _ _
 ·rfl
structure Keep (m m':Mem):Prop where
 limit:m'.limit=m.limit
 used: ∀a,m.used a->m'.used a/\m'.get a=m.get a/\(m'.seg (a / 64).toNat).kind=(m.seg (a / 64).toNat).kind/\(m'.seg (a / 64).toNat).gen=(m.seg (a / 64).toNat).gen/\(m.seg (a / 64).toNat).n<=(m'.seg (a / 64).toNat).n
theorem Keep.refl(m:Mem):Keep m m:=⟨rfl,λa h=>⟨h,rfl,rfl,rfl,Int.le_refl _⟩⟩
theorem Keep.trans{a b c:Mem}(h:Keep a b)(k:Keep b c):Keep a c:=
 ⟨k.limit.trans h.limit,λx j=>by
  obtain⟨d,e,f,g,i⟩:=h.used x j
  obtain⟨l,m,n,o,p⟩:=k.used x d
  exact⟨l,m.trans e,n.trans f,o.trans g,Int.le_trans i p⟩⟩
structure ib (m:Mem) (w kind more:Int) (ws:List Int):Prop where
 word:aC w
 obj:m.isObj w
 kindEq:hk (m.get (w / 8))=kind
 lenEq:hn (m.get (w / 8))=ws.length
 moreEq:hm (m.get (w / 8))=more
 get: ∀(i:Nat) (h:i<ws.length),m.get (w / 8+1+i)=ws[i]
theorem ib.typ{w a b:Int}(h:ib j w a b D):j.typ w=a:=by unfold Mem.typ;rw[if_pos h.obj];exact h.kindEq
theorem ib.len(h:ib j d i B D):j.len d=D.length:=by unfold Mem.len;rw[if_pos h.obj];exact h.lenEq
theorem ib.usedHead(h:ib j d i B D):j.used (d / 8):=h.obj.1.used h.word
theorem ib.usedAt{a:Int}(h:ib j d B a D)(hn: ∀k,(j.seg k).n<=64){i:Nat}(b:i<D.length):j.used (d / 8+1+i):=
 h.obj.used h.word (hn _) ⟨by omega,by rw[h.len];omega⟩
theorem ib.keep{f:Mem}{a:Int}(h:ib j d B a D)(hn: ∀k,(j.seg k).n<=64)(k:Keep j f):ib f d B a D:=by
 obtain⟨g,b,l,_,m⟩:=k.used _ h.usedHead
 have c:=h.obj
 refine⟨h.word,⟨⟨c.1.1,c.1.2.1,g.2.1,?_,g.2.2⟩,by rw[b];exact c.2.1,?_⟩,by rw[b];exact h.kindEq,by rw[b];exact h.lenEq,by rw[b];exact h.moreEq,λi e=>?_⟩
 ·rw[l,b];exact c.1.2.2.2.1
 ·rw[b];have:=c.2.2;omega
 ·rw[(k.used _ (h.usedAt hn e)).2.1];exact h.get i e
theorem Grown.lay{m h:Mem}{a g k:Int}(c:Grown m h a D.length g k)(G:aX m):Keep m (h.sets a D)/\(∀x,0<=x->(h.sets a D).get x=if a<=x/\x<a+D.length then D.getD (x-a).toNat 0 else h.get x)/\(∀i:Nat,i<D.length->(h.sets a D).used (a+i)):=by
 have l:=aY.sets D h a
 obtain⟨u,v,E⟩:=c.addr
 have s: ∀i:Nat,i<D.length->h.used (a+i):=λi q=>by
  have p:(a+i) / 64=a / 64:=by omega
  have w:(a+i) % 64=a % 64+i:=by omega
  refine⟨by omega,?_,?_⟩
  ·rw[p];exact⟨by omega,by rw[c.limit];exact v,c.new.1⟩
  ·rw[p,w,c.new.2.2.2];omega
 have d:=λx (e:0<=x)=>Mem.sets_get D (m:=h) (a:=a) x e u s
 refine⟨⟨l.limit.trans c.limit,λx e=>?_⟩,d,λi q=>l.used.2 (s i q)⟩
 have n:=e.1
 have b:=l.seg (x / 64).toNat
 by_cases f:(x / 64).toNat=(a / 64).toNat
 ·have r:(m.seg (a / 64).toNat).taken≠0:=by rw[<-f];exact e.2.1.2.2
  obtain⟨z,A,t,B,F,C⟩:=c.old r
  have o:=e.2.2
  rw[f,t]at o
  have y:x<a:=by omega
  refine⟨l.used.2 ⟨n,⟨e.2.1.1,by rw[c.limit];exact e.2.1.2.1,by rw[f,C];exact r⟩,by rw[f,c.new.2.2.2];omega⟩,?_,?_,?_,?_⟩
  ·rw[d x n,if_neg (by omega)];unfold Mem.get;rw[f,B]
  ·rw[b.2.1,f,c.new.2.2.1,A]
  ·rw[b.1,f,c.new.2.1,z]
  ·rw[b.2.2.1,f,c.new.2.2.2,t];omega
 ·have j:=c.others _ f
  refine⟨l.used.2 ⟨n,⟨e.2.1.1,by rw[c.limit];exact e.2.1.2.1,by rw[j];exact e.2.1.2.2⟩,by rw[j];exact e.2.2⟩,?_,?_,?_,?_⟩
  ·rw[d x n,if_neg (by omega)];unfold Mem.get;rw[j]
  ·rw[b.2.1,j]
  ·rw[b.1,j]
  ·rw[b.2.2.1,j];omega
theorem Sp.put_ok(f:SpOK u){b tag:Int}(hm:may 0 b D.length)(h:tag=1\/tag=2\/tag=3\/tag=6)(i: ∀w∈D,aC w)(c:(u.alloc 0 b D.length).2.2=0):
  ∃a:Int,(u.put b tag D).2=(a*8+tag,0)/\Grown u.mem (u.alloc 0 b D.length).1.mem a D.length 0 b/\(u.put b tag D).1.mem=(u.alloc 0 b D.length).1.mem.sets a D/\SpOK (u.put b tag D).1/\a<65536/\(u.put b tag D).1.cur=(u.alloc 0 b D.length).1.cur:=by
 obtain⟨d,e⟩:=Sp.alloc_ok f c
 have m:=f.mem.lim
 obtain⟨j,k,l⟩:=e.addr
 refine⟨(u.alloc 0 b D.length).2.1,?_,e,?_,?_,by omega,?_⟩
 ·unfold Sp.put;rw[if_pos c];unfold jk;rw[if_neg (λg=>g h),if_pos (by omega)]
 ·unfold Sp.put;rw[if_pos c]
 ·unfold Sp.put;rw[if_pos c];exact d.sets _ i
 ·unfold Sp.put;rw[if_pos c]
structure Made (m m':Mem) (w:Int) (n:Nat):Prop where
 keep:Keep m m'
 free:m.free-1<=m'.free
 count:m'.count<=m.count+1
 fresh: ∀i:Nat,i<=n-> ¬m.used (w / 8+i)
theorem na{kind more:Int}{n:Nat}(b:1<=kind/\kind<=13)(c:0<=more/\more<281474976710656)(a:n<=62):
  gJ (more*65536+n*256+kind*8+5)/\hk (more*65536+n*256+kind*8+5)=kind/\hn (more*65536+n*256+kind*8+5)=n/\hm (more*65536+n*256+kind*8+5)=more:=by
 unfold gJ hk hn hm
 refine⟨⟨by omega,by omega⟩,by omega,by omega,by omega⟩
theorem Sp.make_ok0(E:SpOK u)(o:1<=d/\d<=13)(q:0<=i/\i<281474976710656)(L:D.length<=62)(M: ∀w∈D,aC w)(h:(u.alloc 0 (rawK d) ((D.length+1:Nat):Int)).2.2=0):
  (u.make d i D).2.2=0/\ib (u.make d i D).1.mem (u.make d i D).2.1 d i D/\SpOK (u.make d i D).1/\Made u.mem (u.make d i D).1.mem (u.make d i D).2.1 D.length:=by
 have r:rawK d=2\/rawK d=3:=by unfold rawK;split<;>omega
 generalize n:i*65536+D.length*256+d*8+5=c
 have b:=na o q L
 rw[n]at b
 have y:aC c:=⟨by omega,by omega⟩
 have I:u.make d i D=u.put (rawK d) 3 (c::D):=by
  unfold Sp.make;rw[if_neg (by intro K;exact K ⟨o,q.2⟩),if_neg (by omega),n]
 rw[I]
 have m: ∀w∈c::D,aC w:=λw l=>by
  rcases List.mem_cons.1 l with rfl | l
  ·exact y
  ·exact M w l
 have p:may 0 (rawK d) ((c::D).length:Nat):=⟨by omega,.inr ⟨r,by simp;omega,by simp;omega⟩⟩
 have h:(u.alloc 0 (rawK d) ((c::D).length:Nat)).2.2=0:=h
 obtain⟨a,s,g,x,z,H,_⟩:=Sp.put_ok (tag:=3) E p (by omega) m h
 obtain⟨N,f,k⟩:=g.lay E.mem
 rw[s,x]
 obtain⟨F,O,G⟩:=g.addr
 have v:=aY.sets (c::D) (u.alloc 0 (rawK d) ((c::D).length:Nat)).1.mem a
 simp only[List.length_cons]at G
 have e:(a*8+3) / 8=a:=by omega
 have t:((u.alloc 0 (rawK d) ((c::D).length:Nat)).1.mem.sets a (c::D)).get a=c:=by
  rw[f a F,if_pos ⟨by omega,by simp;omega⟩];simp
 have j:=k 0 (by simp)
 rw[show a+((0:Nat):Int)=a by omega]at j
 refine⟨rfl,⟨⟨by omega,by omega⟩,?_,?_,?_,?_,λQ B=>?_⟩,z,⟨N,?_,?_,?_⟩⟩
 ·unfold Mem.isObj
  rw[e,t,b.2.1,b.2.2.1]
  refine⟨⟨⟨by omega,by omega⟩,by omega,?_,?_,?_⟩,b.1,?_⟩
  ·rw[e];exact j.2.1
  ·rw[e,(v.seg _).2.1,g.new.2.2.1]
  ·rw[e];exact j.2.2
  ·rw[(v.seg _).2.2.1,g.new.2.2.2];simp;omega
 ·rw[e,t];exact b.2.1
 ·rw[e,t];exact b.2.2.1
 ·rw[e,t];exact b.2.2.2
 ·rw[e,f _ (by omega),if_pos ⟨by omega,by simp;omega⟩]
  rw[show(a+1+(Q:Int)-a).toNat=Q+1 by omega]
  simp[B]
 ·rw[v.free];exact g.free
 ·rw[v.count];exact g.count
 ·rw[e]
  intro Q B C
  have s:(a+Q) / 64=a / 64:=by omega
  have x:(a+Q) % 64=a % 64+Q:=by omega
  by_cases A:(u.mem.seg (a / 64).toNat).taken=0
  ·have:=C.2.1.2.2
   rw[s]at this
   exact this A
  ·have P:=(g.old A).2.2.1
   have J:=C.2.2
   rw[s,x]at J
   omega
theorem Sp.make_ok(c:SpOK u)(a:1<=d/\d<=13)(b:0<=i/\i<281474976710656)(f:D.length<=62)(g: ∀w∈D,aC w)(e:1<=u.mem.free):
  (u.make d i D).2.2=0/\ib (u.make d i D).1.mem (u.make d i D).2.1 d i D/\SpOK (u.make d i D).1/\Made u.mem (u.make d i D).1.mem (u.make d i D).2.1 D.length:=
 Sp.make_ok0 c a b f g (Sp.alloc_can c ⟨by omega,.inr ⟨by unfold rawK;split<;>omega,by omega,by omega⟩⟩ e)
theorem Mem.store_get{m:Mem}(a:m.used d)(x:Int)(b:0<=x):(m.store d i).1.get x=if x=d then i else m.get x:=by
 have e:m.store d i=(m.set d i).mark (d / 64) (d % 64 / 16) ((m.set d i).younger ((m.set d i).seg (d / 64).toNat) i (((m.set d i).seg (d / 64).toNat).cards (d % 64 / 16).toNat)):=by unfold Mem.store;rw[if_pos a]
 rw[e,<-Mem.set_get (m:=m) x b a.1]
 unfold Mem.get
 rw[(Mem.mark_seg _).2.2.2]
theorem Mem.mark_lim:(j.mark d i B).1.limit=j.limit/\(j.mark d i B).1.free=j.free/\(j.mark d i B).1.count=j.count:=by
 unfold Mem.mark
 split
 ·exact⟨rfl,rfl,rfl⟩
 split
 ·exact⟨rfl,rfl,rfl⟩
 ·exact⟨rfl,rfl,rfl⟩
theorem Mem.store_lim{m:Mem}:(m.store d i).1.limit=m.limit/\(m.store d i).1.free=m.free/\(m.store d i).1.count=m.count:=by
 unfold Mem.store
 split
 ·exact Mem.mark_lim
 ·exact⟨rfl,rfl,rfl⟩
theorem Mem.store_used{m:Mem}{a w x:Int}:(m.store a w).1.used x ↔ m.used x:=by
 unfold Mem.used
 rw[Mem.store_has,(Mem.store_seg _).2.2]
theorem Mem.mark_ok(f:aX j)(a:j.has d)(c:0<=i/\i<4)(e:0<=B/\B<=5):(j.mark d i B).2=0:=by
 unfold Mem.mark
 rw[if_neg (λb=>b a),if_neg (by omega)]
theorem aX.genOf(a:aX j)(w:Int):0<=(j.genOf w).1:=by
 unfold Mem.genOf
 split
 ·simp only
  split
  ·exact(a.seg _).gen.1
  ·exact Int.le_refl _
 ·exact Int.le_refl _
theorem Mem.store_0(g:aX j)(b:j.used d)(f:aC i):(j.store d i).2=0:=by
 have e:j.store d i=(j.set d i).mark (d / 64) (d % 64 / 16) ((j.set d i).younger ((j.set d i).seg (d / 64).toNat) i (((j.set d i).seg (d / 64).toNat).cards (d % 64 / 16).toNat)):=by unfold Mem.store;rw[if_pos b]
 have a:=g.set d f
 rw[e]
 refine Mem.mark_ok a (Mem.set_has.2 b.2.1) (by omega) ?_
 have c:=(a.seg (d / 64).toNat).cards (d % 64 / 16).toNat
 have h:=a.genOf i
 unfold Mem.younger
 split
 ·omega
 ·exact c
def Sep(w:Int)(n:Nat)(w':Int)(n':Nat):Prop:= ∀i j:Nat,i<=n->j<=n'->w / 8+i≠w' / 8+j
theorem Sep.symm(h:Sep d k B z):Sep B z d k:=λi j a b e=>h j i b a e.symm
theorem ib.set{m:Mem}{w a b v:Int}{ws:List Int}(h:ib m w a b ws)(o:aX m)(l:z<ws.length):ib (m.store (w / 8+1+z) v).1 w a b (ws.set z v):=by
 have f: ∀k,(m.seg k).n<=64:=λk=>(o.seg k).n.2
 have i:=h.usedAt f l
 have p:0<=w / 8:=by have:=h.word.1;omega
 have c:=h.obj
 have d:(m.store (w / 8+1+z) v).1.get (w / 8)=m.get (w / 8):=by rw[Mem.store_get i _ p,if_neg (by omega)]
 refine⟨h.word,⟨⟨c.1.1,c.1.2.1,Mem.store_has.2 c.1.2.2.1,?_,?_⟩,by rw[d];exact c.2.1,?_⟩,by rw[d];exact h.kindEq,by rw[d,List.length_set];exact h.lenEq,by rw[d];exact h.moreEq,λj g=>?_⟩
 ·rw[d,(Mem.store_seg _).2.1];exact c.1.2.2.2.1
 ·rw[(Mem.store_seg _).2.2];exact c.1.2.2.2.2
 ·rw[d,(Mem.store_seg _).2.2];exact c.2.2
 ·rw[List.length_set]at g
  rw[Mem.store_get i _ (by omega),List.getElem_set]
  by_cases e:z=j
  ·subst e;rw[if_pos rfl,if_pos rfl]
  ·rw[if_neg (by omega),if_neg e];exact h.get j g
def Mem.isPair(m:Mem)(w:Int):Prop:=(m.atW w 1 0\/m.atW w 2 1)/\w / 8 % 2=0
instance (m:Mem) (w:Int):Decidable (m.isPair w):=by unfold Mem.isPair;infer_instance
theorem kY(V:View H v o)(i:aC d):
  eE.C v d H (λr k=> ∃a:Int,r=.tuple #[vi a,.bool (decide ((mof o).isPair d))]/\((mof o).isPair d->a=d / 8)/\Ext H k):=by
 refine HC.via λR j=>eE.link ?_
 unfold eE.pt
 have f:0<=d / 8:=by have:=i.1;omega
 refine HC.mono (m8 V i) ?_
 rintro _ n ⟨a,rfl,m,g⟩
 refine⟨_,_,rfl,?_⟩
 by_cases b:(mof o).atW d 1 0
 ·rw[if_pos (zX b),m b,gU f]
  refine j _ _ ⟨_,?_,λ_=>rfl,g⟩
  refine tupb ?_
  rw[Bool.eq_iff_iff,beq_iff_eq,decide_eq_true_eq]
  exact⟨λh=>⟨.inl b,h⟩,λh=>h.2⟩
 rw[if_neg (by simpa using b)]
 refine HC.mono (m8 (V.ext g) i) ?_
 rintro _ p ⟨q,rfl,e,l⟩
 refine⟨_,_,rfl,j _ _ ⟨_,?_,λh=>e (h.1.resolve_left b),g.trans l⟩⟩
 refine tupb ?_
 by_cases c:(mof o).atW d 2 1
 ·rw[e c,gU f,zX c,Bool.true_and,Bool.eq_iff_iff,beq_iff_eq,decide_eq_true_eq]
  exact⟨λh=>⟨.inr c,h⟩,λh=>h.2⟩
 ·rw[zQ c,Bool.false_and,zQ]
  exact λh=>h.1.elim b c
theorem kZ(V:View H v o)(f:aC d):
  eD.C v d H (λi b=>i=.bool (decide ((mof o).isPair d))/\Ext H b):=by
 refine HC.via λR e=>eD.link ?_
 unfold eD.pt
 refine HC.mono (kY V f) ?_
 rintro _ g ⟨a,rfl,h,c⟩
 exact⟨_,_,rfl,e _ _ ⟨rfl,c⟩⟩
def Mem.halfE(m:Mem)(w i:Int):Int:=if m.isPair w then(if m.used (w / 8+i)then 0 else 18)else 3
theorem Mem.isPair.addr(h:j.isPair d)(a:aC d):0<=d / 8/\d / 8<65536:=by
 have:=a.1
 refine⟨by omega,?_⟩
 rcases h.1 with h | h
 ·exact h.1.2
 ·exact h.1.2
theorem nb(V:View H v o)(l:aC d)(u:0<=i/\i<=1):
  eX.C v d i H (λw m=>w=.tuple #[vu (if(mof o).halfE d i=0 then(mof o).get (d / 8+i)else 0),vi ((mof o).halfE d i)]/\Ext H m):=by
 refine HC.via λR c=>eX.link ?_
 unfold eX.pt zY
 refine HC.mono (kY V l) ?_
 rintro _ r ⟨a,rfl,p,g⟩
 refine⟨_,_,rfl,?_⟩
 by_cases f:(mof o).isPair d
 case neg=>
  rw[if_neg (by simpa using f)]
  have e:(mof o).halfE d i=3:=by unfold Mem.halfE;rw[if_neg f]
  rw[e]at c
  exact c _ _ ⟨rfl,g⟩
 rw[if_pos (zX f),p f]
 have t:=f.addr l
 have e:(mof o).halfE d i=if(mof o).used (d / 8+i)then 0 else 18:=by unfold Mem.halfE;rw[if_pos f]
 rw[e]at c
 cases V with
 | nobody=>exact absurd (f.1.elim (λh=>h.2.2.1) (λh=>h.2.2.1)) kj
 | empty h=>exact absurd (f.1.elim (λh=>h.2.2.1) (λh=>h.2.2.1)) kj
 | @real b x h q=>
  have j:=h.ext g
  have hm:mof (some (b,x))=x.sp.mem:=rfl
  rw[hm]at c
  refine⟨_,rfl,_,j.hPtr,_,rfl,_,j.cd.cPtr,_,rfl,_,j.cd.sp.memPtr,?_⟩
  rw[w64 (n:=d / 8+i) (by omega)]
  refine HC.mono (hU j.cd.sp.mem q.mem (by omega)) ?_
  rintro _ s ⟨rfl,rfl⟩
  by_cases k:x.sp.mem.used (d / 8+i)
  ·rw[if_pos k]at c⊢
   exact⟨_,_,rfl,c _ _ ⟨rfl,g⟩⟩
  ·rw[if_neg k]at c⊢
   exact⟨_,_,rfl,c _ _ ⟨rfl,g⟩⟩
theorem kD{w:Int}(V:View H v o)(d:aC w):
  eF.C v w H (λf a=>f=.tuple #[vu (if(mof o).halfE w 0=0 then(mof o).get (w / 8+0)else 0),vi ((mof o).halfE w 0)]/\Ext H a):=by
 refine HC.via λR c=>eF.link ?_
 unfold eF.pt
 refine HC.mono (nb V d (by decide)) ?_
 rintro _ e ⟨rfl,b⟩
 exact⟨_,_,rfl,c _ _ ⟨rfl,b⟩⟩
theorem rI(V:View H v o)(e:aC d):
  fW.C v d H (λg a=>g=.tuple #[vu (if(mof o).halfE d 1=0 then(mof o).get (d / 8+1)else 0),vi ((mof o).halfE d 1)]/\Ext H a):=by
 refine HC.via λR c=>fW.link ?_
 unfold fW.pt
 refine HC.mono (nb V e (by decide)) ?_
 rintro _ f ⟨rfl,b⟩
 exact⟨_,_,rfl,c _ _ ⟨rfl,b⟩⟩
def lE(o:Option (Blk×Hp))(w i v:Int):Option (Blk×Hp):=
 match o with
 | none=>none
 | some (b,x)=>some (b,x.setMem (if x.sp.mem.isPair w then(x.sp.mem.store (w / 8+i) v).1 else x.sp.mem))
def hsetE(o:Option (Blk×Hp))(w i v:Int):Int:=if(mof o).isPair w then((mof o).store (w / 8+i) v).2 else 3
theorem ob(V:View H v o)(w:aC d)(F:0<=i/\i<=1)(g:aC B):
  fK.C v d i B H (λu s=>u=vi (hsetE o d i B)/\View s v (lE o d i B)/\Fr (own o) H s):=by
 refine HC.via λR p=>fK.link ?_
 unfold fK.pt zY
 refine HC.mono (kY V w) ?_
 rintro _ A ⟨a,rfl,z,k⟩
 refine⟨_,_,rfl,?_⟩
 by_cases c:(mof o).isPair d
 case neg=>
  rw[if_neg (by simpa using c)]
  have e:hsetE o d i B=3:=by unfold hsetE;rw[if_neg c]
  have l:lE o d i B=o:=by
   unfold lE
   match o,c with
   | none,_=>rfl
   | some (b,x),c=>
    have f: ¬x.sp.mem.isPair d:=c
    simp only;rw[if_neg f];rfl
  rw[e,l]at p
  exact p _ _ ⟨rfl,V.ext k,k.fr⟩
 rw[if_pos (zX c),z c]
 have E:=c.addr w
 cases V with
 | nobody=>exact absurd (c.1.elim (λh=>h.2.2.1) (λh=>h.2.2.1)) kj
 | empty h=>exact absurd (c.1.elim (λh=>h.2.2.1) (λh=>h.2.2.1)) kj
 | @real b x h y=>
  have m:=h.ext k
  have f:x.sp.mem.isPair d:=c
  refine⟨_,rfl,_,m.hPtr,?_⟩
  rw[w64 (n:=d / 8+i) (by omega)]
  refine HC.mono (lD m.cd y ⟨by omega,by omega⟩ g) ?_
  rintro _ D ⟨rfl,q,t⟩
  refine⟨_,rfl,p _ _ ⟨?_,?_,?_⟩⟩
  ·unfold hsetE;rw[if_pos c];rfl
  ·have l:lE (some (b,x)) d i B=some (b,x.setMem (x.sp.mem.store (d / 8+i) B).1):=by unfold lE;simp only;rw[if_pos f]
   rw[l]
   exact .real (m.withCd t (λj r=>by simp at r;omega) q) (y.store _ g)
  ·exact(k.fr (S:=own (some (b,x)))).trans (t.mono (λj r _=>by simp at r;simp[own];omega))
theorem oE(V:View H v o)(g:aC d)(a:aC i):
  eJ.C v d i H (λu b=>u=vi (hsetE o d 0 i)/\View b v (lE o d 0 i)/\Fr (own o) H b):=by
 refine HC.via λR f=>eJ.link ?_
 unfold eJ.pt
 refine HC.mono (ob V g (by decide) a) ?_
 rintro _ h ⟨rfl,c,e⟩
 exact⟨_,rfl,f _ _ ⟨rfl,c,e⟩⟩
theorem lF(V:View H v o)(g:aC d)(a:aC i):
  dM.C v d i H (λu b=>u=vi (hsetE o d 1 i)/\View b v (lE o d 1 i)/\Fr (own o) H b):=by
 refine HC.via λR f=>dM.link ?_
 unfold dM.pt
 refine HC.mono (ob V g (by decide) a) ?_
 rintro _ h ⟨rfl,c,e⟩
 exact⟨_,rfl,f _ _ ⟨rfl,c,e⟩⟩
def Mem.sizeOf(m:Mem)(w:Int):Int:=if m.isPair w then 2 else if m.isObj w then m.len w+1 else 0
theorem qr(V:View H v o)(g:aC d):
  fF.C v d H (λm h=>m=vi ((mof o).sizeOf d)/\Ext H h):=by
 refine HC.via λR e=>fF.link ?_
 unfold fF.pt zY
 refine HC.mono (kZ V g) ?_
 rintro _ j ⟨rfl,c⟩
 refine⟨_,rfl,?_⟩
 by_cases b:(mof o).isPair d
 ·rw[if_pos (zX b)]
  exact e _ _ ⟨by unfold Mem.sizeOf;rw[if_pos b],c⟩
 rw[if_neg (by simpa using b)]
 refine HC.mono (ja (V.ext c) g) ?_
 rintro _ k ⟨rfl,f⟩
 refine⟨_,_,_,_,_,rfl,?_⟩
 by_cases a:(mof o).isObj d
 ·rw[if_pos (zX a)]
  have l:=a.len_lt
  have i:(mof o).len d=hn ((mof o).get (d / 8)):=by unfold Mem.len;rw[if_pos a]
  refine e _ _ ⟨?_,c.trans f⟩
  rw[w64 (by omega)];unfold Mem.sizeOf;rw[if_neg b,if_pos a]
 ·rw[if_neg (by simpa using a)]
  exact e _ _ ⟨by unfold Mem.sizeOf;rw[if_neg b,if_neg a],c.trans f⟩
theorem pj{H0 H:zV}(a:H[k]?=some (.cells #[vu d,vu i] 28 (0,0))):gc H (some ⟨k,0,none⟩) (wvs [d,i]):=
 gK a _ 0 0 (λj b=>by
  have:j=0\/j=1:=by simp at b;omega
  rcases this with rfl | rfl<;>rfl)
theorem nf(V:View H v o)(r:aC d)(s:aC i)(n:pi o):
  eV.C v d i H (λu e=>u=.tuple #[vu (putR o 0 1 [d,i]).1,vi (putR o 0 1 [d,i]).2]/\View e v (putO o 0 1 [d,i])/\Fr (own o) H e):=by
 refine HC.via λR l=>eV.link ?_
 unfold eV.pt
 intro b h m a
 have f:Ext H h:=Ext.push' a
 refine HC.mono (lX (ws:=[d,i]) (V.ext f) (pj (H0:=H) (aO m a)) rfl (λw g=>by simp at g;rcases g with rfl | rfl<;>assumption) (λt p c=>by simp at p;have:=V.own_lt t c;omega) n (by decide) (by simp)) ?_
 rintro _ q ⟨rfl,j,k⟩
 exact⟨_,_,rfl,l _ _ ⟨rfl,j,f.fr.trans k⟩⟩
theorem ng(V:View H v o)(r:aC d)(s:aC i)(n:pi o):
  eW.C v d i H (λu e=>u=.tuple #[vu (putR o 1 2 [d,i]).1,vi (putR o 1 2 [d,i]).2]/\View e v (putO o 1 2 [d,i])/\Fr (own o) H e):=by
 refine HC.via λR l=>eW.link ?_
 unfold eW.pt
 intro b h m a
 have f:Ext H h:=Ext.push' a
 refine HC.mono (lX (ws:=[d,i]) (V.ext f) (pj (H0:=H) (aO m a)) rfl (λw g=>by simp at g;rcases g with rfl | rfl<;>assumption) (λt p c=>by simp at p;have:=V.own_lt t c;omega) n (by decide) (by simp)) ?_
 rintro _ q ⟨rfl,j,k⟩
 exact⟨_,_,rfl,l _ _ ⟨rfl,j,f.fr.trans k⟩⟩
