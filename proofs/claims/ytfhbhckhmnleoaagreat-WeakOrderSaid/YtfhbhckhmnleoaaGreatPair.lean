/-
  A memory of segments, said of abstract segments: how it stands on the heap, and the contracts of package seg. Proves nothing of any one statement.
-/
import Derived.Test.YtfhbhckhmnleoaaGreatLx
import Derived.Test.YtfhbhckhmnleoaaGreatWord
import Derived.Test.YtfhbhckhmnleoaaGreatFweak
set_option linter.unusedVariables false
set_option linter.unusedSimpArgs false
namespace Go.Proofs.YtfhbhckhmnleoaaGreat
open Go
variable{H A:zV}{a b u:Int}{g v:Nat}{j:zW}{B:List Int}
abbrev I64(x:Int):Prop:= -9223372036854775808<=x/\x<=9223372036854775807
structure Seg where
  gen:Int
  kind:Int
  n:Int
  cards:Nat->Int
  taken:Int
  words:Nat->Int
def Seg.cell(s:Seg):Nat->Value
  | 0=> vi s.gen
  | 1=> vi s.kind
  | 2=> vi s.n
  | 3=> vi (s.cards 0)
  | 4=> vi (s.cards 1)
  | 5=> vi (s.cards 2)
  | 6=> vi (s.cards 3)
  | 7=> vi s.taken
  | j+8=> vu (s.words j)
def Seg.none:Seg:=⟨0,0,0,λ_=>0,0,λ_=>0⟩
def Seg.new(gen kind taken:Int):Seg:=⟨gen,kind,0,λ_=>5,taken,λ_=>0⟩
structure oH (s:Seg):Prop where
  gen:0<=s.gen/\s.gen<=4
  kind:0<=s.kind/\s.kind<=3
  n:0<=s.n/\s.n<=64
  cards: ∀c,0<=s.cards c/\s.cards c<=5
  taken:0<=s.taken
  words: ∀j,aC (s.words j)
structure Mem where
  limit:Nat
  seg:Nat->Seg
  count:Int
  free:Int
variable{d:Mem}
def Mem.upd(m:Mem)(k:Nat)(s:Seg):Mem:={m with seg:=λi=>if i=k then s else m.seg i}
@[simp] theorem Mem.upd_limit (m:Mem) (k:Nat) (s:Seg):(m.upd k s).limit=m.limit:=rfl
@[simp] theorem Mem.upd_count (m:Mem) (k:Nat) (s:Seg):(m.upd k s).count=m.count:=rfl
@[simp] theorem Mem.upd_free (m:Mem) (k:Nat) (s:Seg):(m.upd k s).free=m.free:=rfl
theorem Mem.upd_same(m:Mem)(k:Nat)(s:Seg):(m.upd k s).seg k=s:=by simp[Mem.upd]
theorem Mem.upd_other(m:Mem)(s:Seg)(h:g≠v):(m.upd v s).seg g=m.seg g:=by simp[Mem.upd,h]
theorem Mem.upd_seg(m:Mem)(i k:Nat)(s:Seg):(m.upd k s).seg i=if i=k then s else m.seg i:=rfl
def Mem.nfree(m:Mem):Nat:=(List.range m.limit).countP (λk=>(m.seg k).taken==0)
structure aV (m:Mem):Prop where
  lim:8<=m.limit/\m.limit<=1024
  seg: ∀k,oH (m.seg k)
  free:m.free=m.nfree
  count:0<=m.count
theorem iE: ∀(n k:Nat) (p q:Nat->Bool),k<n->(∀i,i≠k->p i=q i)->p k=true->q k=false->(List.range n).countP p=(List.range n).countP q+1
  | 0,k,p,q,hk,_,_,_=>by omega
  | n+1,k,p,q,hk,hpq,h1,h2=>by
    rw[List.range_succ,List.countP_append,List.countP_append]
    by_cases a:k=n
    · subst a
      have e:(List.range k).countP p=(List.range k).countP q:=by
        refine List.countP_congr λi b=>?_
        have:i<k:=List.mem_range.1 b
        rw[hpq i (by omega)]
      rw[e]
      simp[h1,h2]
    · rw[iE n k p q (by omega) hpq h1 h2]
      simp[List.countP_cons,hpq n (λh=>a h.symm)]
      omega
theorem Mem.nfree_pos(h:d.nfree≠0): ∃k,k<d.limit/\(d.seg k).taken=0:=by
  have:0< (List.range d.limit).countP (λk=>(d.seg k).taken==0):=Nat.pos_of_ne_zero h
  obtain⟨k,hk,a⟩:=List.countP_pos_iff.1 this
  exact⟨k,List.mem_range.1 hk,by simpa using a⟩
theorem Mem.nfree_same{s:Seg}(h:s.taken=(d.seg g).taken):(d.upd g s).nfree=d.nfree:=by
  unfold Mem.nfree
  refine List.countP_congr λi _=>?_
  rw[Mem.upd_seg]
  by_cases a:i=g
  · rw[if_pos a,h,a]
  · rw[if_neg a]
theorem Mem.nfree_take{m:Mem}{k:Nat}{s:Seg}(hk:k<m.limit)(a:(m.seg k).taken=0)(b:s.taken≠0):m.nfree=(m.upd k s).nfree+1:=by
  refine iE _ k _ _ hk (λi c=>by rw[Mem.upd_other _ _ c]) (by simp[a]) ?_
  show(((m.upd k s).seg k).taken==0)=false
  rw[Mem.upd_same];simpa using b
theorem Mem.nfree_give{m:Mem}{k:Nat}{s:Seg}(hk:k<m.limit)(a:(m.seg k).taken≠0)(b:s.taken=0):(m.upd k s).nfree=m.nfree+1:=by
  refine iE _ k _ _ hk (λi c=>by rw[Mem.upd_other _ _ c]) ?_ (by simpa using a)
  show(((m.upd k s).seg k).taken==0)=true
  rw[Mem.upd_same];simp[b]
theorem aV.upd{m:Mem}(h:aV m){k:Nat}{s:Seg}(hs:oH s)(ht:s.taken=(m.seg k).taken):aV (m.upd k s):=
  ⟨h.lim, fun i => by rw [Mem.upd_seg]; by_cases hi : i = k; · rw [if_pos hi]; exact hs
                      · rw[if_neg hi];exact h.seg i,by rw[Mem.nfree_same ht];exact h.free,h.count⟩
structure cw (H:zV) (bm bs:Nat) (m:Mem):Prop where
  mem: ∃cap:Nat,H[bm]?=some (.cells #[vs (some ⟨bs,0,none⟩) m.limit cap,vi m.count,vi m.free] 157 (0,0))
  ne:bm≠bs
  segs: ∃cs:Array Value,H[bs]?=some (.cells cs 161 (0,0))/\m.limit*72<=cs.size/\ ∀k,k<m.limit-> ∀j,j<72->cs[k*72+j]?=some ((m.seg k).cell j)
theorem cw.keep{S:List Nat}(h:cw H g v d)(f:Fr S H A)(b:g ∉ S)(c:v ∉ S):cw A g v d:=by
  obtain⟨a,e,i⟩:=h.segs
  exact⟨⟨h.mem.choose,f.get b h.mem.choose_spec⟩,h.ne,a,f.get c e,i⟩
theorem cw.ext(h:cw H g v d)(f:Ext H A):cw A g v d:=h.keep (S:=[]) f.fr (by simp) (by simp)
theorem cw.lt{m:Mem}(h:cw H g v m):g<H.size/\v<H.size:=by
  obtain⟨b,a,_⟩:=h.segs
  exact⟨bB h.mem.choose_spec,bB a⟩
theorem cw.at{H:zV}{m:Mem}(h:cw H g v m){k j:Nat}(hk:k<m.limit)(b:j<72):hat H ⟨v,k*72+j,none⟩=some ((m.seg k).cell j):=by
  obtain⟨d,a,_,c⟩:=h.segs
  rw[aH a,c k hk j b]
theorem cw.segsAt(h:cw H g v d): ∃a:Nat,hat H ⟨g,0,none⟩=some (vs (some ⟨v,0,none⟩) d.limit a):=⟨h.mem.choose,by rw[aH h.mem.choose_spec];rfl⟩
theorem cw.countAt(h:cw H g v d):hat H ⟨g,1,none⟩=some (vi d.count):=by rw[aH h.mem.choose_spec];rfl
theorem cw.freeAt(h:cw H g v d):hat H ⟨g,2,none⟩=some (vi d.free):=by rw[aH h.mem.choose_spec];rfl
theorem cw.canPuts(h:cw H g v d){k o n:Nat}(hk:k<d.limit)(hn:o+n<=72):aM H ⟨v,k*72+o,none⟩ 0 n:=by
  obtain⟨b,a,c,_⟩:=h.segs
  refine bV a _ _ _ ?_
  have:(k+1)*72<=d.limit*72:=Nat.mul_le_mul_right _ hk
  omega
theorem cw.puts(h:cw H g v d){k o:Nat}{vs:List Value}{s:Seg}(hk:k<d.limit)(hn:o+vs.length<=72)
    (u: ∀j,j<vs.length->vs[j]?=some (s.cell (o+j))) (q: ∀j,j<72->(j<o\/o+vs.length<=j)->s.cell j=(d.seg k).cell j):
    cw (aP H ⟨v,k*72+o,none⟩ vs 0) g v (d.upd k s)/\Fr [v] H (aP H ⟨v,k*72+o,none⟩ vs 0):=by
  obtain⟨t,r,x,p⟩:=h.segs
  have w:(k+1)*72<=d.limit*72:=Nat.mul_le_mul_right _ hk
  rw[cW vs H t (k*72+o) 0 r,Nat.add_zero]
  refine⟨⟨⟨h.mem.choose,by rw[eO (λe=>h.ne e.symm)];exact h.mem.choose_spec⟩,h.ne,_,aZ (bB r),by rw[splice_size];exact x,λi b j c=>?_⟩,Fr.set⟩
  rw[Mem.upd_seg]
  have b:i<d.limit:=b
  by_cases a:i=k
  · subst a
    rw[if_pos rfl]
    by_cases l:j<o
    · rw[cL _ _ _ _ (by omega),p i b j c,q j c (.inl l)]
    by_cases m:o+vs.length<=j
    · rw[eG _ _ _ _ (by omega),p i b j c,q j c (.inr m)]
    · rw[show i*72+j=i*72+o+(j-o)by omega,dv _ _ _ _ (by omega) (by omega),u (j-o) (by omega),show o+(j-o)=j by omega]
  · rw[if_neg a,<-p i b j c]
    rcases Nat.lt_or_gt_of_ne a with n | f
    · have:(i+1)*72<=k*72:=Nat.mul_le_mul_right _ n
      exact cL _ _ _ _ (by omega)
    · have:(k+1)*72<=i*72:=Nat.mul_le_mul_right _ f
      exact eG _ _ _ _ (by omega)
theorem cw.put{a:Nat}{m:Mem}(h:cw H g a m){k o:Nat}{v:Value}{s:Seg}(hk:k<m.limit)(hn:o<72)
    (c:s.cell o=v) (d: ∀j,j<72->j≠o->s.cell j=(m.seg k).cell j):
    cw (aP H ⟨a,k*72+o,none⟩ [v] 0) g a (m.upd k s)/\Fr [a] H (aP H ⟨a,k*72+o,none⟩ [v] 0):=by
  refine h.puts hk (by simp;omega) (λj b=>?_) (λj b e=>d j b (by simp at e;omega))
  simp only[List.length_singleton]at b
  obtain rfl:j=0:=by omega
  rw[Nat.add_zero,c];rfl
def Mem.has(m:Mem)(k:Int):Prop:=0<=k/\k<m.limit/\(m.seg k.toNat).taken≠0
instance (m:Mem) (k:Int):Decidable (m.has k):=by unfold Mem.has;infer_instance
theorem iP(h:cw H g v d):
    dG.C (some ⟨g,0,none⟩) a H (λk j=>k=vp (if d.has a then some ⟨v,a.toNat*72,none⟩else none)/\j=H):=by
  refine HC.via λR c=>dG.link ?_
  unfold dG.pt
  rw[onPtr_some]
  by_cases f:a<0
  · rw[if_pos f];exact c _ _ ⟨by rw[if_neg (λb=>by have:=b.1;omega)],rfl⟩
  rw[if_neg f]
  refine⟨_,_,_,h.segsAt.choose_spec,?_⟩
  by_cases i:a>=(d.limit:Int)
  · rw[if_pos i];exact c _ _ ⟨by rw[if_neg (λb=>by have:=b.2.1;omega)],rfl⟩
  rw[if_neg i]
  have hk:a.toNat<d.limit:=by omega
  refine⟨_,_,_,h.segsAt.choose_spec,_,rfl,⟨by omega,by omega⟩,(d.seg a.toNat).taken,?_,?_⟩
  · simp only[addr_add_mk,Nat.zero_add];exact h.at hk (by omega)
  by_cases e:(d.seg a.toNat).taken=0
  · rw[if_pos e];exact c _ _ ⟨by rw[if_neg (λb=>b.2.2 e)],rfl⟩
  · rw[if_neg e]
    refine⟨_,_,_,h.segsAt.choose_spec,_,rfl,⟨by omega,by omega⟩,c _ _ ⟨?_,rfl⟩⟩
    rw[if_pos ⟨by omega,by omega,e⟩,addr_add_mk,Nat.zero_add]
def Seg.head(s:Seg):Value:=.agg #[vi s.gen,vi s.kind,vi s.n,vi (s.cards 0),vi (s.cards 1),vi (s.cards 2),vi (s.cards 3)]
theorem gT(h:cw H g v d):
    bA.C (some ⟨g,0,none⟩) a H (λz u=>z=.tuple #[(if d.has a then d.seg a.toNat else Seg.none).head,.bool (decide (d.has a))]/\Ext H u):=by
  refine HC.via λR t=>bA.link ?_
  unfold bA.pt
  intro b H1 w e
  have i:Ext H H1:=Ext.push' e
  have s:=aL w e
  refine HC.mono (iP (h.ext i)) ?_
  rintro _ k ⟨rfl,rfl⟩
  refine⟨_,rfl,?_⟩
  by_cases hk:d.has a
  · rw[if_pos hk,onPtr_some]
    have p:a.toNat<d.limit:=by have:=hk.1;have:=hk.2.1;omega
    have f:aU k ⟨v,a.toNat*72,none⟩ 0 [vi (d.seg a.toNat).gen,vi (d.seg a.toNat).kind,vi (d.seg a.toNat).n,vi ((d.seg a.toNat).cards 0),vi ((d.seg a.toNat).cards 1),vi ((d.seg a.toNat).cards 2),vi ((d.seg a.toNat).cards 3)]:=by
      have y:=λj (x:j<72)=>(h.ext i).at (j:=j) p x
      simp only[aU,addr_add_mk]
      exact⟨y 0 (by omega),y 1 (by omega),y 2 (by omega),y 3 (by omega),y 4 (by omega),y 5 (by omega),y 6 (by omega),trivial⟩
    refine⟨_,_,_,_,_,_,_,f,?_⟩
    obtain⟨o,r⟩:=boxed (vs:=[vi (d.seg a.toNat).gen,vi (d.seg a.toNat).kind,vi (d.seg a.toNat).n,vi ((d.seg a.toNat).cards 0),vi ((d.seg a.toNat).cards 1),vi ((d.seg a.toNat).cards 2),vi ((d.seg a.toNat).cards 3)]) (H1:=k) s rfl rfl
    refine⟨o,λl c=>?_⟩
    obtain⟨q,m⟩:=r l c
    refine⟨_,_,_,_,_,_,_,q,t _ _ ⟨?_,m H i (by omega)⟩⟩
    rw[if_pos hk,zX hk];rfl
  · rw[if_neg hk,onPtr_none]
    obtain⟨o,r⟩:=boxed (vs:=[vi 0,vi 0,vi 0,vi 0,vi 0,vi 0,vi 0]) (H1:=k) s rfl rfl
    refine⟨o,λl c=>?_⟩
    obtain⟨q,m⟩:=r l c
    refine⟨_,_,_,_,_,_,_,q,t _ _ ⟨?_,m H i (by omega)⟩⟩
    rw[if_neg hk,zQ hk];rfl
def Mem.used(m:Mem)(a:Int):Prop:=0<=a/\m.has (a / 64)/\a % 64< (m.seg (a / 64).toNat).n
instance (m:Mem) (a:Int):Decidable (m.used a):=by unfold Mem.used;infer_instance
def Mem.get(m:Mem)(a:Int):Int:=(m.seg (a / 64).toNat).words (a % 64).toNat
def Seg.set(s:Seg)(i:Nat)(w:Int):Seg:={s with words:=λj=>if j=i then w else s.words j}
def Mem.set(m:Mem)(a w:Int):Mem:=m.upd (a / 64).toNat ((m.seg (a / 64).toNat).set (a % 64).toNat w)
theorem kO(h:cw H g v d)(l:aV d)(k:a<=9223372036854775807):
    dO.C (some ⟨g,0,none⟩) a H (λm i=>m=vp (if d.used a then some ⟨v,(a / 64).toNat*72+(8+(a % 64).toNat),none⟩else none)/\i=H):=by
  refine HC.via λR c=>dO.link ?_
  unfold dO.pt zY
  by_cases f:a<0
  · rw[if_pos f];exact c _ _ ⟨by rw[if_neg (λb=>by have:=b.1;omega)],rfl⟩
  rw[if_neg f,gJ (by omega),w64 (n:=a / 64) (by omega),hM (by omega)]
  refine HC.mono (iP h) ?_
  rintro _ j ⟨rfl,rfl⟩
  refine⟨_,rfl,?_⟩
  by_cases hk:d.has (a / 64)
  · rw[if_pos hk,onPtr_some]
    have e:(a / 64).toNat<d.limit:=by have:=hk.1;have:=hk.2.1;omega
    refine⟨(d.seg (a / 64).toNat).n,by rw[addr_add_mk];exact h.at e (by omega),?_⟩
    by_cases hn:a % 64>=(d.seg (a / 64).toNat).n
    · rw[if_pos hn];exact c _ _ ⟨by rw[if_neg (λb=>by have:=b.2.2;omega)],rfl⟩
    · rw[if_neg hn]
      refine⟨⟨by omega,by omega⟩,c _ _ ⟨?_,rfl⟩⟩
      rw[if_pos ⟨by omega,hk,by omega⟩]
      simp only[addr_add_mk,Nat.mul_one]
      rw[Nat.add_assoc]
  · rw[if_neg hk,onPtr_none];exact c _ _ ⟨by rw[if_neg (λb=>hk b.2.1)],rfl⟩
theorem fF(h:cw H g v d)(j:aV d)(i:a<=9223372036854775807):
    bN.C (some ⟨g,0,none⟩) a H (λl f=>l=(if d.used a then .tuple #[vu (d.get a),vi 0]else .tuple #[vu 0,vi 18])/\f=H):=by
  refine HC.via λR e=>bN.link ?_
  unfold bN.pt
  refine HC.mono (kO h j i) ?_
  rintro _ k ⟨rfl,rfl⟩
  refine⟨_,rfl,?_⟩
  by_cases b:d.used a
  · rw[if_pos b,onPtr_some]
    have c:(a / 64).toNat<d.limit:=by have:=b.2.1.1;have:=b.2.1.2.1;omega
    refine⟨d.get a,?_,e _ _ ⟨by rw[if_pos b],rfl⟩⟩
    rw[h.at c (by omega),show 8+(a % 64).toNat=(a % 64).toNat+8 by omega];rfl
  · rw[if_neg b,onPtr_none];exact e _ _ ⟨by rw[if_neg b],rfl⟩
theorem Seg.set_cell(s:Seg)(i:Nat)(w:Int):(s.set i w).cell (8+i)=vu w:=by
  rw[show 8+i=i+8 by omega];simp[Seg.cell,Seg.set]
theorem Seg.set_cell_other(s:Seg)(i:Nat)(w:Int): ∀j,j≠8+i->(s.set i w).cell j=s.cell j
  | 0,_ | 1,_ | 2,_ | 3,_ | 4,_ | 5,_ | 6,_ | 7,_=>rfl
  | j+8,h=>by simp[Seg.cell,Seg.set];intro e;omega
theorem eQ{e:Nat}{m:Mem}(h:cw H g e m)(r:aV m)(p:a<=9223372036854775807):
    bG.C (some ⟨g,0,none⟩) a b H (λv i=>v=vi (if m.used a then 0 else 18)/\cw i g e (if m.used a then m.set a b else m)/\Fr [e] H i):=by
  refine HC.via λR k=>bG.link ?_
  unfold bG.pt
  refine HC.mono (kO h r p) ?_
  rintro _ t ⟨rfl,rfl⟩
  refine⟨_,rfl,?_⟩
  by_cases c:m.used a
  · rw[if_pos c,onPtr_some]
    have d:(a / 64).toNat<m.limit:=by have:=c.2.1.1;have:=c.2.1.2.1;omega
    refine⟨h.canPuts d (by omega),λu f=>?_⟩
    subst f
    obtain⟨l,n⟩:=h.put (v:=vu b) (s:=(m.seg (a / 64).toNat).set (a % 64).toNat b) d (o:=8+(a % 64).toNat) (by omega) (Seg.set_cell _ _ _) (λj _ q=>Seg.set_cell_other _ _ _ j q)
    exact k _ _ ⟨by rw[if_pos c],by rw[if_pos c];exact l,n⟩
  · rw[if_neg c,onPtr_none];exact k _ _ ⟨by rw[if_neg c],by rw[if_neg c];exact h,Fr.refl _ _⟩
def Seg.bump(s:Seg)(d:Int):Seg:={s with n:=s.n+d}
def Mem.bump(m:Mem)(k d:Int):Mem×Int×Int:=
  if ¬m.has k then(m,0,19)
  else if d<1 then(m,0,1)
  else if 64-(m.seg k.toNat).n<d then(m,0,2)
  else(m.upd k.toNat ((m.seg k.toNat).bump d),k*64+(m.seg k.toNat).n,0)
theorem kP{m:Nat}(h:cw H g m d)(u:aV d):
    dQ.C (some ⟨g,0,none⟩) a b H (λv p=>v=.tuple #[vi (d.bump a b).2.1,vi (d.bump a b).2.2]/\cw p g m (d.bump a b).1/\Fr [m] H p):=by
  refine HC.via λR f=>dQ.link ?_
  unfold dQ.pt zY
  refine HC.mono (iP h) ?_
  rintro _ w ⟨rfl,rfl⟩
  refine⟨_,rfl,?_⟩
  by_cases hk:d.has a
  · rw[if_pos hk,onPtr_some]
    have c:a.toNat<d.limit:=by have:=hk.1;have:=hk.2.1;omega
    have t:=u.lim
    have A:=(u.seg a.toNat).n
    have D:=hk.1
    by_cases k:b<1
    · rw[if_pos k]
      have e:d.bump a b=(d,0,1):=by unfold Mem.bump;rw[if_neg (λl=>l hk),if_pos k]
      rw[e]at f
      exact f _ _ ⟨rfl,h,Fr.refl _ _⟩
    rw[if_neg k]
    have hn:hat w (Addr.add ⟨m,a.toNat*72,none⟩ 2)=some (vi (d.seg a.toNat).n):=by rw[addr_add_mk];exact h.at c (by omega)
    refine⟨_,hn,?_⟩
    rw[w64 (n:=64-(d.seg a.toNat).n) (by omega)]
    by_cases r:b>64-(d.seg a.toNat).n
    · rw[if_pos r]
      have e:d.bump a b=(d,0,2):=by unfold Mem.bump;rw[if_neg (λl=>l hk),if_neg k,if_pos (by omega)]
      rw[e]at f
      exact f _ _ ⟨rfl,h,Fr.refl _ _⟩
    rw[if_neg r]
    have e:d.bump a b=(d.upd a.toNat ((d.seg a.toNat).bump b),a*64+(d.seg a.toNat).n,0):=by unfold Mem.bump;rw[if_neg (λl=>l hk),if_neg k,if_neg (by omega)]
    rw[e]at f
    refine⟨_,hn,by rw[addr_add_mk];exact h.canPuts c (by omega),λB i=>?_⟩
    rw[addr_add_mk,w64 (n:=(d.seg a.toNat).n+b) (by omega)]at i
    subst i
    obtain⟨q,x⟩:=h.put (v:=vi ((d.seg a.toNat).n+b)) (s:=(d.seg a.toNat).bump b) c (o:=2) (by omega) rfl (λj _ y=>by
      match j,y with
      | 0,_ | 1,_ | 3,_ | 4,_ | 5,_ | 6,_ | 7,_=>rfl
      | 2,h=>exact absurd rfl h
      | j+8,_=>rfl)
    refine⟨(d.seg a.toNat).n+b,?_,f _ _ ⟨?_,q,x⟩⟩
    · rw[addr_add_mk,q.at c (by omega),Mem.upd_same];rfl
    · have z:a<1024:=by have:=hk.2.1;omega
      rw[w64 (n:=a*64) (by omega),w64 (n:=a*64+((d.seg a.toNat).n+b)) (by omega),w64 (by omega)]
      rw[show a*64+((d.seg a.toNat).n+b)-b=a*64+(d.seg a.toNat).n by omega]
  · rw[if_neg hk,onPtr_none]
    have e:d.bump a b=(d,0,19):=by unfold Mem.bump;rw[if_pos hk]
    rw[e]at f
    exact f _ _ ⟨rfl,h,Fr.refl _ _⟩
def Seg.mark(s:Seg)(c:Nat)(v:Int):Seg:={s with cards:=λi=>if i=c then v else s.cards i}
def Mem.mark(m:Mem)(k c v:Int):Mem×Int:=
  if ¬m.has k then(m,19)
  else if c<0\/4<=c\/v<0\/5<v then(m,1)
  else(m.upd k.toNat ((m.seg k.toNat).mark c.toNat v),0)
theorem kQ{k:Nat}(h:cw H g k d):
    dS.C (some ⟨g,0,none⟩) a b u H (λv m=>v=vi (d.mark a b u).2/\cw m g k (d.mark a b u).1/\Fr [k] H m):=by
  refine HC.via λR c=>dS.link ?_
  unfold dS.pt
  refine HC.mono (iP h) ?_
  rintro _ t ⟨rfl,rfl⟩
  refine⟨_,rfl,?_⟩
  by_cases hk:d.has a
  · rw[if_pos hk,onPtr_some]
    have i:a.toNat<d.limit:=by have:=hk.1;have:=hk.2.1;omega
    by_cases n:b<0\/4<=b\/u<0\/5<u
    · rw[if_pos (by simp;omega)]
      have e:d.mark a b u=(d,1):=by unfold Mem.mark;rw[if_neg (λl=>l hk),if_pos n]
      rw[e]at c
      exact c _ _ ⟨rfl,h,Fr.refl _ _⟩
    · rw[if_neg (by simp;omega)]
      have e:d.mark a b u=(d.upd a.toNat ((d.seg a.toNat).mark b.toNat u),0):=by unfold Mem.mark;rw[if_neg (λl=>l hk),if_neg n]
      rw[e]at c
      simp only[addr_add_mk,Nat.mul_one]
      refine⟨⟨by omega,by omega⟩,by rw[Nat.add_assoc];exact h.canPuts i (by omega),λw f=>?_⟩
      rw[Nat.add_assoc]at f
      subst f
      obtain⟨p,q⟩:=h.put (v:=vi u) (s:=(d.seg a.toNat).mark b.toNat u) i (o:=3+b.toNat) (by omega) (by
          have:b.toNat=0\/b.toNat=1\/b.toNat=2\/b.toNat=3:=by omega
          rcases this with e | e | e | e<;>rw[e]<;>rfl) (λj _ r=>by
        match j,r with
        | 0,_ | 1,_ | 2,_ | 7,_=>rfl
        | 3,h | 4,h | 5,h | 6,h=>simp only[Seg.cell,Seg.mark];rw[if_neg (by omega)]
        | j+8,_=>rfl)
      exact c _ _ ⟨rfl,p,q⟩
  · rw[if_neg hk,onPtr_none]
    have e:d.mark a b u=(d,19):=by unfold Mem.mark;rw[if_pos hk]
    rw[e]at c
    exact c _ _ ⟨rfl,h,Fr.refl _ _⟩
def Mem.first(m:Mem):Nat:=((List.range m.limit).find? (λk=>(m.seg k).taken==0)).getD 0
theorem Mem.first_eq(hk:g<d.limit)(a:(d.seg g).taken=0)(b: ∀j,j<g->(d.seg j).taken≠0):d.first=g:=by
  unfold Mem.first
  have:(List.range d.limit).find? (λg=>(d.seg g).taken==0)=some g:=by
    rw[List.find?_range_eq_some]
    refine⟨by simp[a],by simp[hk],λj c=>by simpa using b j c⟩
  rw[this];rfl
def Mem.take(m:Mem)(gen kind:Int):Mem×Int×Int:=
  if gen<0\/4<gen\/kind<0\/3<kind then(m,0,1)
  else if m.free=0 then(m,0,2)
  else({m with count:=m.count+1,free:=m.free-1}.upd m.first (Seg.new gen kind (m.count+1)),m.first,0)
theorem pM(b a t:Int): ∃vs:List Value,vs=([vi b,vi a,vi 0,vi 5,vi 5,vi 5,vi 5,vi t]++List.replicate 64 (vu 0):List Value)/\vs.length=72/\ ∀j,j<72->vs[j]?=some ((Seg.new b a t).cell j):=by
  refine⟨_,rfl,by simp,λj c=>?_⟩
  match j,c with
  | 0,_ | 1,_ | 2,_ | 3,_ | 4,_ | 5,_ | 6,_ | 7,_=>rfl
  | j+8,c=>
    rw[List.getElem?_append_right (by simp)]
    simp only[List.length_cons,List.length_nil]
    rw[List.getElem?_replicate,if_pos (by omega)];rfl
theorem lV: ∃z:Array Value,z=(List.replicate 8 (vi 0)++List.replicate 64 (vu 0):List Value).toArray/\z.size=72/\ ∀j,j<72->z[j]?=some (Seg.none.cell j):=by
  refine⟨_,rfl,by simp,λj a=>?_⟩
  rw[List.getElem?_toArray]
  match j,a with
  | 0,_ | 1,_ | 2,_ | 3,_ | 4,_ | 5,_ | 6,_ | 7,_=>rfl
  | j+8,a=>
    rw[List.getElem?_append_right (by simp)]
    simp only[List.length_replicate]
    rw[List.getElem?_replicate,if_pos (by omega)];rfl
theorem nK(h:cw H g v d)(t:aV d)(hc:d.count<4611686018427387904):
    eq.C (some ⟨g,0,none⟩) a b H (λab B=>ab=.tuple #[vi (d.take a b).2.1,vi (d.take a b).2.2]/\cw B g v (d.take a b).1/\Fr [g,v] H B):=by
  refine HC.via λR r=>eq.link ?_
  unfold eq.pt zY
  rw[onPtr_some]
  have V:=t.lim
  have c:(a<0\/4<a\/b<0\/3<b)->R (.tuple #[vi 0,vi 1]) H:=λL=>by
    have e:d.take a b=(d,0,1):=by unfold Mem.take;rw[if_pos L]
    rw[e]at r
    exact r _ _ ⟨rfl,h,Fr.refl _ _⟩
  by_cases G:a<0
  · rw[if_pos G];exact c (.inl G)
  rw[if_neg G]
  by_cases I:a>4
  · rw[if_pos I];exact c (.inr (.inl I))
  rw[if_neg I]
  by_cases J:b<0
  · rw[if_pos J];exact c (.inr (.inr (.inl J)))
  rw[if_neg J]
  by_cases K:b>3
  · rw[if_pos K];exact c (.inr (.inr (.inr K)))
  rw[if_neg K]
  refine⟨_,_,_,h.segsAt.choose_spec,?_⟩
  rw[if_neg (by omega)]
  refine⟨d.free,by rw[addr_add_mk];exact h.freeAt,?_⟩
  by_cases u:d.free=0
  · rw[if_pos u]
    have e:d.take a b=(d,0,2):=by unfold Mem.take;rw[if_neg (by omega),if_pos u]
    rw[e]at r
    exact r _ _ ⟨rfl,h,Fr.refl _ _⟩
  rw[if_neg u]
  have P:d.nfree≠0:=λe=>u (by rw[t.free,e];rfl)
  have O:=Mem.nfree_pos P
  have M:d.free<=1024:=by
    rw[t.free]
    have:d.nfree<=(List.range d.limit).length:=List.countP_le_length
    simp at this
    omega
  have E:0<=d.free:=by rw[t.free];omega
  refine⟨λk B=>B=H/\0<=k/\ ∀j:Nat,j<k.toNat->(d.seg j).taken≠0,λk _=>(1024-k).toNat,⟨rfl,by omega,λj q=>by simp at q⟩,?_⟩
  rintro k Y ⟨rfl,W,q⟩
  obtain⟨X,a4,N⟩:=O
  have l:k.toNat<d.limit:=by
    rcases Nat.lt_or_ge X k.toNat with h | h
    · exact absurd N (q X h)
    · omega
  refine⟨_,_,_,h.segsAt.choose_spec,_,rfl,⟨W,by omega⟩,(d.seg k.toNat).taken,by simp only[addr_add_mk,Nat.zero_add];exact h.at l (by omega),?_⟩
  have ht:=(t.seg k.toNat).taken
  by_cases z:(d.seg k.toNat).taken>0
  · rw[if_pos z,w64 (n:=k+1) (by omega)]
    refine⟨⟨rfl,by omega,λj a3=>?_⟩,by show(1024-(k+1)).toNat< (1024-k).toNat;omega⟩
    by_cases e:j=k.toNat
    · subst e;omega
    · exact q j (by omega)
  rw[if_neg z]
  have A:(d.seg k.toNat).taken=0:=by omega
  have f:d.first=k.toNat:=Mem.first_eq l A q
  have U:=t.count
  refine⟨d.count,by rw[addr_add_mk];exact h.countAt,by rw[addr_add_mk];exact bV h.mem.choose_spec _ _ _ (by simp),λZ m=>?_⟩
  rw[addr_add_mk,cW _ _ _ _ _ h.mem.choose_spec,w64 (n:=d.count+1) (by omega)]at m
  have F:Z[g]?=some (.cells #[.slice (some ⟨v,0,none⟩) d.limit h.mem.choose,vi (d.count+1),vi d.free] 157 (0,0)):=by rw[m,aZ h.lt.1];rfl
  refine⟨d.free,by rw[addr_add_mk,aH F];rfl,by rw[addr_add_mk];exact bV F _ _ _ (by simp),λQ p=>?_⟩
  rw[addr_add_mk,cW _ _ _ _ _ F,w64 (n:=d.free-1) (by omega),m,jt]at p
  have D:cw Q g v {d with count:=d.count+1,free:=d.free-1}:=by
    subst p
    obtain⟨cs,L,hr⟩:=h.segs
    exact⟨⟨h.mem.choose,by rw[aZ h.lt.1];rfl⟩,h.ne,cs,by rw[eO h.ne];exact L,hr⟩
  have f3:Fr [g] Y Q:=by subst p;exact Fr.set
  refine⟨_,_,_,D.segsAt.choose_spec,d.count+1,by rw[addr_add_mk];exact D.countAt,_,rfl,⟨W,by show k< (d.limit:Int);omega⟩,?_⟩
  simp only[addr_add_mk,Nat.zero_add]
  have x:=D.canPuts (k:=k.toNat) (o:=0) (n:=72) l (by omega)
  rw[Nat.add_zero]at x
  refine⟨x,λH4 w=>?_⟩
  obtain⟨vs,evs,hl,hg⟩:=pM a b (d.count+1)
  rw[<-evs]at w
  obtain⟨T,S⟩:=D.puts (k:=k.toNat) (o:=0) (vs:=vs) (s:=Seg.new a b (d.count+1)) l (by omega) (λj q=>by rw[Nat.zero_add];exact hg j (by omega)) (λj q ho=>by omega)
  rw[Nat.add_zero]at T S
  have e:d.take a b=({d with count:=d.count+1,free:=d.free-1}.upd k.toNat (Seg.new a b (d.count+1)),k,0):=by
    unfold Mem.take
    rw[if_neg (by omega),if_neg u,f,show((k.toNat:Nat):Int)=k by omega]
  rw[e]at r
  subst w
  exact r _ _ ⟨rfl,T,(f3.trans' S (λi y _=>by simp at y;simp[y]) (λi y _=>by simp at y;simp[y]))⟩
def Mem.fresh(limit:Nat):Mem:=⟨limit,λ_=>Seg.none,0,limit⟩
theorem jk:oH Seg.none:=⟨by decide,by decide,by decide,λ_=>(by decide:(0:Int)<=0/\(0:Int)<=5),by decide,λ_=>(by decide:aC 0)⟩
theorem mW(h:8<=g/\g<=1024):aV (Mem.fresh g):=
  ⟨h,λ_=>jk,by
    show(g:Int)=_
    unfold Mem.nfree
    have:(List.range g).countP (λk=>((Mem.fresh g).seg k).taken==0)=(List.range g).length:=List.countP_eq_length.2 (λ_ _=>rfl)
    show(g:Int)=(((List.range g).countP (λk=>((Mem.fresh g).seg k).taken==0):Nat):Int)
    rw[this];simp,Int.le_refl _⟩
theorem oY(A:I64 a):
    gR.C a H (λv e=>(¬(8<=a/\a<=1024)/\v=.tuple #[vp none,vi 1]/\e=H)\/
      ((8<=a/\a<=1024)/\ ∃f g,v=.tuple #[vp (some ⟨f,0,none⟩),vi 0]/\cw e f g (Mem.fresh a.toNat)/\Ext H e/\H.size<=g/\g<f)):=by
  refine HC.via λR p=>gR.link ?_
  unfold gR.pt
  by_cases h:8<=a/\a<=1024
  · rw[if_neg (by simp;omega)]
    obtain⟨z,s,r,u⟩:=lV
    rw[<-s]
    refine⟨by omega,by omega,by omega,by omega,λb x q c m y i d=>p _ _ (.inr ⟨h,m,b,rfl,?_,(Ext.push' c).trans (Ext.push' d),by omega,?_⟩)⟩
    · have o:=aL q c
      have t:=aL i d
      have l:m≠b:=by have:=bB o;omega
      refine⟨⟨a.toNat,?_⟩,l,_,(Ext.push' d).get o,?_,?_⟩
      · rw[t]
        show _=some (Obj.cells #[vs (some ⟨b,0,none⟩) a.toNat a.toNat,vi 0,vi ((a.toNat:Nat):Int)] _ _)
        rw[show((a.toNat:Nat):Int)=a by omega]
      · rw[hU,r];exact Nat.le_refl _
      · intro k hk j w
        have:=ja (z:=z) (n:=a.toNat) (k:=k) (j:=j) hk (by omega)
        rw[r]at this
        rw[this,u j w];rfl
    · have:=bB (aL q c);omega
  · rw[if_pos (by simp;omega)]
    exact p _ _ (.inl ⟨h,rfl,rfl⟩)
theorem aV.bump(a:aV d)(k e:Int):aV (d.bump k e).1:=by
 unfold Mem.bump
 by_cases hk:d.has k
 ·rw[if_neg (λh=>h hk)]
  by_cases b:e<1
  ·rw[if_pos b];exact a
  rw[if_neg b]
  by_cases c:64-(d.seg k.toNat).n<e
  ·rw[if_pos c];exact a
  rw[if_neg c]
  have s:=a.seg k.toNat
  exact a.upd ⟨s.gen,s.kind,by have:=s.n;show 0<=(d.seg k.toNat).n+e/\(d.seg k.toNat).n+e<=64;omega,s.cards,s.taken,s.words⟩ rfl
 ·rw[if_pos hk];exact a
theorem Mem.bump_lim(m:Mem)(k d:Int):(m.bump k d).1.limit=m.limit/\(m.bump k d).1.count=m.count/\(m.bump k d).1.free=m.free:=by
 unfold Mem.bump
 split
 ·exact⟨rfl,rfl,rfl⟩
 split
 ·exact⟨rfl,rfl,rfl⟩
 split<;>exact⟨rfl,rfl,rfl⟩
theorem Mem.bump_fail(h:(d.bump a b).2.2≠0):(d.bump a b).1=d:=by
 unfold Mem.bump at*
 split
 ·rfl
 ·rename_i c
  rw[if_neg c]at h
  split
  ·rfl
  ·rename_i e
   rw[if_neg e]at h
   split
   ·rfl
   ·rename_i f
    rw[if_neg f]at h
    exact absurd rfl h
theorem Mem.first_spec(i:aV d)(h:d.free≠0):d.first<d.limit/\(d.seg d.first).taken=0:=by
 have b:d.nfree≠0:=λe=>h (by rw[i.free,e];rfl)
 obtain⟨k,hk,c⟩:=Mem.nfree_pos b
 have g:((List.range d.limit).find? (λk=>(d.seg k).taken==0)).isSome=true:=by
  rw[List.find?_isSome];exact⟨k,List.mem_range.2 hk,by simp[c]⟩
 obtain⟨j,a⟩:=Option.isSome_iff_exists.1 g
 have f:=List.find?_some a
 have hm:=List.mem_of_find?_eq_some a
 unfold Mem.first
 rw[a]
 exact⟨List.mem_range.1 hm,by simpa using f⟩
theorem aV.take{m:Mem}(c:aV m)(b a:Int):aV (m.take b a).1:=by
 unfold Mem.take
 by_cases f:b<0\/4<b\/a<0\/3<a
 ·rw[if_pos f];exact c
 rw[if_neg f]
 by_cases d:m.free=0
 ·rw[if_pos d];exact c
 rw[if_neg d]
 obtain⟨l,j⟩:=Mem.first_spec c d
 have n:=c.count
 refine⟨c.lim,λi=>?_,?_,by show 0<=m.count+1;omega⟩
 ·rw[Mem.upd_seg]
  by_cases g:i=m.first
  ·rw[if_pos g]
   exact⟨by show 0<=b/\b<=4;omega,by show 0<=a/\a<=3;omega,(by decide:(0:Int)<=0/\(0:Int)<=64),λ_=>(by decide:(0:Int)<=5/\(5:Int)<=5),by show 0<=m.count+1;omega,λ_=>(by decide:aC 0)⟩
  ·rw[if_neg g];exact c.seg i
 ·show m.free-1=_
  have e:=Mem.nfree_take (m:=m) (k:=m.first) (s:=Seg.new b a (m.count+1)) l j (by show m.count+1≠0;omega)
  have h:({m with count:=m.count+1,free:=m.free-1}.upd m.first (Seg.new b a (m.count+1))).nfree=(m.upd m.first (Seg.new b a (m.count+1))).nfree:=rfl
  rw[h,c.free,e];omega
theorem aV.set{m:Mem}(b:aV m)(a:Int){w:Int}(c:aC w):aV (m.set a w):=by
 have s:=b.seg (a / 64).toNat
 refine b.upd ⟨s.gen,s.kind,s.n,s.cards,s.taken,λj=>?_⟩ rfl
 simp only[Seg.set]
 by_cases h:j=(a % 64).toNat
 ·rw[if_pos h];exact c
 ·rw[if_neg h];exact s.words j
theorem aV.mark{m:Mem}(a:aV m)(k c v:Int):aV (m.mark k c v).1:=by
 unfold Mem.mark
 by_cases hk:m.has k
 ·rw[if_neg (λh=>h hk)]
  by_cases b:c<0\/4<=c\/v<0\/5<v
  ·rw[if_pos b];exact a
  rw[if_neg b]
  have s:=a.seg k.toNat
  refine a.upd ⟨s.gen,s.kind,s.n,λi=>?_,s.taken,s.words⟩ rfl
  simp only[Seg.mark]
  by_cases h:i=c.toNat
  ·rw[if_pos h];omega
  ·rw[if_neg h];exact s.cards i
 ·rw[if_pos hk];exact a
structure Sp where
 mem:Mem
 cur:Nat->Nat->Int
variable{i:Sp}
structure Blk where
 h:Nat
 c:Nat
 sp:Nat
 m:Nat
 s:Nat
variable{o:Blk}
def Blk.all(b:Blk):List Nat:=[b.h,b.c,b.sp,b.m,b.s]
structure SpOK (s:Sp):Prop where
 mem:aV s.mem
 cur: ∀g k,s.cur g k=0\/(1<=s.cur g k/\s.mem.has (s.cur g k-1)/\(s.mem.seg (s.cur g k-1).toNat).gen=g/\(s.mem.seg (s.cur g k-1).toNat).kind=k)
structure SpAt (H:zV) (b:Blk) (s:Sp):Prop where
 mem:cw H b.m b.s s.mem
 ne:b.sp≠b.m/\b.sp≠b.s
 sp: ∃cs:Array Value,H[b.sp]?=some (.cells cs 82 (0,0))/\cs.size=21/\cs[0]?=some (vp (some ⟨b.m,0,none⟩))/\ ∀g k,g<5->k<4->cs[1+g*4+k]?=some (vi (s.cur g k))
theorem SpAt.keep{S:List Nat}(h:SpAt H o i)(f:Fr S H A)(b:o.sp ∉ S)(c:o.m ∉ S)(d:o.s ∉ S):SpAt A o i:=by
 obtain⟨a,e,g⟩:=h.sp
 exact⟨h.mem.keep f c d,h.ne,a,f.get b e,g⟩
theorem SpAt.ext{b:Blk}{s:Sp}(h:SpAt H b s)(f:Ext H A):SpAt A b s:=h.keep (S:=[]) f.fr (by simp) (by simp) (by simp)
theorem SpAt.withMem{S:List Nat}{m:Mem}(h:SpAt H o i)(f:Fr S H A)(b:o.sp ∉ S)(hm:cw A o.m o.s m):SpAt A o {i with mem:=m}:=by
 obtain⟨a,c,d⟩:=h.sp
 exact⟨hm,h.ne,a,f.get b c,d⟩
theorem SpAt.memPtr{s:Sp}(h:SpAt H o s):hat H ⟨o.sp,0,none⟩=some (vp (some ⟨o.m,0,none⟩)):=by
 obtain⟨c,b,_,a,_⟩:=h.sp
 rw[aH b,a]
theorem SpAt.curAt(h:SpAt H o i){g k:Nat}(c:g<5)(hk:k<4):hat H ⟨o.sp,1+g*4+k,none⟩=some (vi (i.cur g k)):=by
 obtain⟨d,a,_,_,b⟩:=h.sp
 rw[aH a,b g k c hk]
def Sp.setCur(s:Sp)(g k:Nat)(v:Int):Sp:={s with cur:=λi j=>if i=g/\j=k then v else s.cur i j}
theorem SpAt.putCur(h:SpAt H o i){g k:Nat}{v:Int}(p:g<5)(hk:k<4):
  aM H ⟨o.sp,1+g*4+k,none⟩ 0 1/\SpAt (aP H ⟨o.sp,1+g*4+k,none⟩ [vi v] 0) o (i.setCur g k v)/\Fr [o.sp] H (aP H ⟨o.sp,1+g*4+k,none⟩ [vi v] 0):=by
 obtain⟨b,a,n,c,d⟩:=h.sp
 refine⟨bV a _ _ _ (by omega),?_⟩
 rw[cW _ H b _ 0 a]
 refine⟨⟨h.mem.keep (S:=[o.sp]) Fr.set (by have:=h.ne;simp;omega) (by have:=h.ne;simp;omega),h.ne,_,aZ (bB a),by rw[splice_size];exact n,?_,λq j f l=>?_⟩,Fr.set⟩
 ·rw[cL _ _ _ _ (by omega)];exact c
 ·simp only[Sp.setCur]
  by_cases e:q=g/\j=k
  ·rw[if_pos e,e.1,e.2]
   have:=dv b [vi v] (1+g*4+k+0) 0 (by simp;omega) (by simp)
   simpa using this
  ·rw[if_neg e,<-d q j f l]
   rcases Nat.lt_or_ge (1+q*4+j) (1+g*4+k)with m | m
   ·exact cL _ _ _ _ (by omega)
   ·exact eG _ _ _ _ (by simp;omega)
theorem jB(h:SpAt H o i):cD.C (some ⟨o.sp,0,none⟩) H (λv a=>v=vF/\a=H):=by
 refine HC.via λR b=>cD.link ?_
 unfold cD.pt
 rw[onPtr_some]
 refine⟨_,h.memPtr,?_⟩
 rw[onPtr_some]
 exact b _ _ ⟨rfl,rfl⟩
def may(gen kind n:Int):Prop:=(0<=gen/\gen<=4)/\(((kind=0\/kind=1)/\n=2)\/((kind=2\/kind=3)/\1<=n/\n<=63))
instance (gen kind n:Int):Decidable (may gen kind n):=by unfold may;infer_instance
theorem mX:fN.C a b u H (λv f=>v=.bool (decide (may a b u))/\f=H):=by
 refine HC.via λR c=>fN.link ?_
 unfold fN.pt
 by_cases d:a<0\/a>4
 ·rw[if_pos (by simpa using d)]
  exact c _ _ ⟨by rw[zQ (λh=>by have:=h.1;omega)],rfl⟩
 rw[if_neg (by simpa using d)]
 by_cases e:b=0\/b=1
 ·rw[if_pos (by simpa using e)]
  refine c _ _ ⟨?_,rfl⟩
  congr 1
  rw[Bool.eq_iff_iff,decide_eq_true_eq]
  unfold may
  simp only[decide_eq_true_eq,beq_iff_eq,Bool.and_eq_true,Bool.or_eq_true]
  omega
 ·rw[if_neg (by simpa using e)]
  refine c _ _ ⟨?_,rfl⟩
  congr 1
  rw[Bool.eq_iff_iff,decide_eq_true_eq]
  unfold may
  simp only[decide_eq_true_eq,beq_iff_eq,Bool.and_eq_true,Bool.or_eq_true]
  omega
theorem kq(h:SpAt H o i)(g:SpOK i)(l:0<=a/\a<=4)(hk:0<=b/\b<=3):
  bR.C (some ⟨o.sp,0,none⟩) a b H (λv j=>v=(if i.cur a.toNat b.toNat=0 then .tuple #[vi 0,vF]else .tuple #[vi (i.cur a.toNat b.toNat-1),vT])/\j=H):=by
 refine HC.via λR e=>bR.link ?_
 unfold bR.pt zY
 rw[onPtr_some,if_neg (by omega),if_neg (by omega),if_neg (by omega),if_neg (by omega)]
 have f:hat H (Addr.add (Addr.add (Addr.add ⟨o.sp,0,none⟩ 1) (a.toNat*4)) (b.toNat*1))=some (vi (i.cur a.toNat b.toNat)):=by
  simp only[addr_add_mk,Nat.zero_add,Nat.mul_one]
  exact h.curAt (by omega) (by omega)
 refine⟨by omega,by omega,_,f,?_⟩
 by_cases c:i.cur a.toNat b.toNat=0
 ·rw[if_pos c];exact e _ _ ⟨by rw[if_pos c],rfl⟩
 ·rw[if_neg c]
  refine⟨by omega,by omega,_,f,e _ _ ⟨?_,rfl⟩⟩
  rw[if_neg c]
  have m:=g.mem.lim
  rcases g.cur a.toNat b.toNat with d | ⟨d,k,_⟩
  ·exact absurd d c
  ·rw[w64 (by have:=k.2.1;omega)]
def Sp.alloc(s:Sp)(gen kind n:Int):Sp×Int×Int:=
 if ¬may gen kind n then(s,0,1)
 else if s.cur gen.toNat kind.toNat≠0/\(s.mem.bump (s.cur gen.toNat kind.toNat-1) n).2.2=0 then
  ({s with mem:=(s.mem.bump (s.cur gen.toNat kind.toNat-1) n).1},(s.mem.bump (s.cur gen.toNat kind.toNat-1) n).2.1,0)
 else if(s.mem.take gen kind).2.2=0 then
  ({mem:=((s.mem.take gen kind).1.bump (s.mem.take gen kind).2.1 n).1,cur:=(s.setCur gen.toNat kind.toNat ((s.mem.take gen kind).2.1+1)).cur},((s.mem.take gen kind).1.bump (s.mem.take gen kind).2.1 n).2.1,((s.mem.take gen kind).1.bump (s.mem.take gen kind).2.1 n).2.2)
 else(s,0,(s.mem.take gen kind).2.2)
theorem iu(h:SpAt H o i)(q:SpOK i)(y:i.mem.count<4611686018427387904):
  bO.C (some ⟨o.sp,0,none⟩) a b u H (λv r=>v=.tuple #[vi (i.alloc a b u).2.1,vi (i.alloc a b u).2.2]/\SpAt r o (i.alloc a b u).1/\Fr [o.sp,o.m,o.s] H r):=by
 refine HC.via λR l=>bO.link ?_
 unfold bO.pt zY
 refine HC.mono (jB h) ?_
 rintro _ s ⟨rfl,rfl⟩
 refine⟨_,rfl,?_⟩
 rw[if_neg (by decide)]
 refine HC.mono mX ?_
 rintro _ s ⟨rfl,rfl⟩
 refine⟨_,rfl,?_⟩
 by_cases hm:may a b u
 case neg=>
  rw[if_neg (by simpa using hm)]
  have e:i.alloc a b u=(i,0,1):=by unfold Sp.alloc;rw[if_pos hm]
  rw[e]at l
  exact l _ _ ⟨rfl,h,Fr.refl _ _⟩
 rw[if_pos (zX hm)]
 have Y:=hm.1
 have hk:0<=b/\b<=3:=by have:=hm.2;omega
 refine HC.mono (kq h q Y hk) ?_
 rintro _ s ⟨rfl,rfl⟩
 have K: ∃(F:Int) (D:Bool),(if i.cur a.toNat b.toNat=0 then Value.tuple #[vi 0,vF]else .tuple #[vi (i.cur a.toNat b.toNat-1),vT])=.tuple #[vi F,.bool D]/\((D=false/\i.cur a.toNat b.toNat=0)\/(D=true/\i.cur a.toNat b.toNat≠0/\F=i.cur a.toNat b.toNat-1)):=by
  by_cases j:i.cur a.toNat b.toNat=0
  ·rw[if_pos j];exact⟨_,_,rfl,.inl ⟨rfl,j⟩⟩
  ·rw[if_neg j];exact⟨_,_,rfl,.inr ⟨rfl,j,rfl⟩⟩
 obtain⟨F,D,Z,X⟩:=K
 refine⟨F,D,Z,?_⟩
 refine⟨λr=>SpAt r o i/\Fr [o.sp,o.m,o.s] s r/\ ¬(i.cur a.toNat b.toNat≠0/\(i.mem.bump (i.cur a.toNat b.toNat-1) u).2.2=0),?_,?_⟩
 ·rcases X with⟨rfl,j⟩ | ⟨rfl,j,rfl⟩
  ·rw[if_neg (by decide)]
   exact⟨h,Fr.refl _ _,λf=>f.1 j⟩
  ·rw[if_pos rfl]
   refine⟨_,rfl,_,h.memPtr,?_⟩
   refine HC.mono (kP h.mem q.mem) ?_
   rintro _ T ⟨rfl,n,G⟩
   refine⟨_,_,rfl,?_⟩
   have t:Fr [o.sp,o.m,o.s] s T:=G.mono (λa4 d _=>by simp at d;simp[d])
   by_cases x:(i.mem.bump (i.cur a.toNat b.toNat-1) u).2.2=0
   ·rw[if_pos x]
    have e:i.alloc a b u=({i with mem:=(i.mem.bump (i.cur a.toNat b.toNat-1) u).1},(i.mem.bump (i.cur a.toNat b.toNat-1) u).2.1,0):=by
     unfold Sp.alloc;rw[if_neg (λf=>f hm),if_pos ⟨j,x⟩]
    rw[e]at l
    exact l _ _ ⟨rfl,h.withMem G (by have:=h.ne;simp;omega) n,t⟩
   ·rw[if_neg x]
    rw[Mem.bump_fail x]at n
    have:=h.withMem G (by have:=h.ne;simp;omega) n
    exact⟨this,t,λf=>x f.2⟩
 rintro H4 ⟨E,V,z⟩
 refine⟨_,rfl,_,E.memPtr,?_⟩
 refine HC.mono (nK E.mem q.mem y) ?_
 rintro _ U ⟨rfl,p,I⟩
 refine⟨_,_,rfl,?_⟩
 have B:o.sp ∉ [o.m,o.s]:=by have:=h.ne;simp;omega
 have w:Fr [o.sp,o.m,o.s] s U:=V.trans (I.mono (λa4 d _=>by simp at d;simp;omega))
 by_cases c:(i.mem.take a b).2.2=0
 ·rw[if_pos c]
  have W:=E.withMem I B p
  have A:=W.putCur (g:=a.toNat) (k:=b.toNat) (v:=(i.mem.take a b).2.1+1) (by omega) (by omega)
  have O: -9223372036854775808<=(i.mem.take a b).2.1+1/\(i.mem.take a b).2.1+1<=9223372036854775807:=by
   have hl:=q.mem.lim
   unfold Mem.take at c⊢
   rw[if_neg (by omega)]at c⊢
   by_cases L:i.mem.free=0
   ·rw[if_pos L]at c;exact absurd c (show ¬((2:Int)=0)by decide)
   ·rw[if_neg L]
    have:=(Mem.first_spec q.mem L).1
    show-9223372036854775808<=(i.mem.first:Int)+1/\(i.mem.first:Int)+1<=_
    omega
  simp only[addr_add_mk,Nat.zero_add,Nat.mul_one]
  rw[w64 O]
  refine⟨by omega,by omega,A.1,λH6 J=>?_⟩
  subst J
  refine⟨_,A.2.1.memPtr,?_⟩
  refine HC.mono (kP A.2.1.mem (q.mem.take a b)) ?_
  rintro _ H7 ⟨rfl,M,P⟩
  refine⟨_,_,rfl,?_⟩
  have e:i.alloc a b u=({mem:=((i.mem.take a b).1.bump (i.mem.take a b).2.1 u).1,cur:=(i.setCur a.toNat b.toNat ((i.mem.take a b).2.1+1)).cur},((i.mem.take a b).1.bump (i.mem.take a b).2.1 u).2.1,((i.mem.take a b).1.bump (i.mem.take a b).2.1 u).2.2):=by
   unfold Sp.alloc;rw[if_neg (λf=>f hm),if_neg z,if_pos c]
  rw[e]at l
  refine l _ _ ⟨rfl,A.2.1.withMem P (by have:=h.ne;simp;omega) M,?_⟩
  exact(w.trans (A.2.2.mono (λa4 d _=>by simp at d;simp[d]))).trans (P.mono (λa4 d _=>by simp at d;simp[d]))
 ·rw[if_neg c]
  have e:i.alloc a b u=(i,0,(i.mem.take a b).2.2):=by
   unfold Sp.alloc;rw[if_neg (λf=>f hm),if_neg z,if_neg c]
  rw[e]at l
  have N:(i.mem.take a b).1=i.mem:=by
   unfold Mem.take at c⊢
   by_cases Q:a<0\/4<a\/b<0\/3<b
   ·rw[if_pos Q]
   rw[if_neg Q]at c⊢
   by_cases S:i.mem.free=0
   ·rw[if_pos S]
   ·rw[if_neg S]at c;exact absurd rfl c
  rw[N]at p
  exact l _ _ ⟨rfl,E.withMem I B p,w⟩
theorem mY(q:I64 a):
  fM.C a H (λv d=>(¬(8<=a/\a<=1024)/\v=.tuple #[vp none,vi 1]/\Ext H d)\/
   ((8<=a/\a<=1024)/\ ∃b:Blk,v=.tuple #[vp (some ⟨b.sp,0,none⟩),vi 0]/\SpAt d b ⟨Mem.fresh a.toNat,λ_ _=>0⟩/\Ext H d/\H.size<=b.s/\b.s<b.m/\b.m<b.sp)):=by
 refine HC.via λR j=>fM.link ?_
 unfold fM.pt
 refine HC.mono (oY q) ?_
 rintro _ u (⟨hn,rfl,rfl⟩ | ⟨t,e,i,rfl,hm,l,h,f⟩)
 ·refine⟨_,_,rfl,?_⟩
  rw[if_neg (by decide)]
  exact j _ _ (.inl ⟨hn,rfl,Ext.refl _⟩)
 ·refine⟨_,_,rfl,?_⟩
  rw[if_pos rfl]
  intro b w p c
  have r:=hm.lt
  refine j _ _ (.inr ⟨t,⟨0,0,b,e,i⟩,rfl,?_,l.trans (Ext.push' c),h,f,by show e<b;omega⟩)
  refine⟨hm.ext (Ext.push' c),⟨by show b≠e;omega,by show b≠i;omega⟩,_,aL p c,rfl,rfl,λg k x hk=>?_⟩
  have o:g=0\/g=1\/g=2\/g=3\/g=4:=by omega
  have n:k=0\/k=1\/k=2\/k=3:=by omega
  rcases o with rfl | rfl | rfl | rfl | rfl<;>rcases n with rfl | rfl | rfl | rfl<;>rfl
theorem nL(h:8<=g/\g<=1024):SpOK ⟨Mem.fresh g,λ_ _=>0⟩:=⟨mW h,λ_ _=> .inl rfl⟩
structure CdAt (H:zV) (b:Blk) (s:Sp):Prop where
 sp:SpAt H b s
 ne:b.c≠b.sp/\b.c≠b.m/\b.c≠b.s
 c:H[b.c]?=some (.cells #[vp (some ⟨b.sp,0,none⟩)] 54 (0,0))
theorem CdAt.keep{S:List Nat}(h:CdAt H o i)(f:Fr S H A)(e:o.c ∉ S)(a:o.sp ∉ S)(b:o.m ∉ S)(d:o.s ∉ S):CdAt A o i:=
 ⟨h.sp.keep f a b d,h.ne,f.get e h.c⟩
theorem CdAt.ext{b:Blk}{s:Sp}(h:CdAt H b s)(f:Ext H A):CdAt A b s:=h.keep (S:=[]) f.fr (by simp) (by simp) (by simp) (by simp)
theorem CdAt.withSp{S:List Nat}{a:Sp}(h:CdAt H o i)(f:Fr S H A)(b:o.c ∉ S)(d:SpAt A o a):CdAt A o a:=⟨d,h.ne,f.get b h.c⟩
theorem CdAt.cPtr{s:Sp}(h:CdAt H o s):hat H ⟨o.c,0,none⟩=some (vp (some ⟨o.sp,0,none⟩)):=by rw[aH h.c];rfl
theorem CdAt.withMem{m:Mem}{S:List Nat}(h:CdAt H o i)(f:Fr S H A)(b: ∀c,c∈S->c=o.m\/c=o.s)(hm:cw A o.m o.s m):CdAt A o {i with mem:=m}:=
 h.withSp f (λa=>by have:=b _ a;have:=h.ne;omega) (h.sp.withMem f (λa=>by have:=b _ a;have:=h.sp.ne;omega) hm)
theorem ik(h:CdAt H o i):bS.C (some ⟨o.c,0,none⟩) H (λv a=>v=vF/\a=H):=by
 refine HC.via λR b=>bS.link ?_
 unfold bS.pt
 rw[onPtr_some]
 refine⟨_,h.cPtr,?_⟩
 rw[onPtr_some]
 refine⟨_,h.cPtr,_,rfl,_,h.sp.memPtr,?_⟩
 rw[onPtr_some]
 exact b _ _ ⟨rfl,rfl⟩
def dH(w:Int):Prop:=(w % 8=1\/w % 8=2\/w % 8=3\/w % 8=6)/\w / 8<65536
instance (w:Int):Decidable (dH w):=by unfold dH;infer_instance
def Mem.genOf(m:Mem)(w:Int):Int×Bool:=if dH w/\w % 8≠6 then((if m.has (w / 8 / 64)then(m.seg (w / 8 / 64).toNat).gen else 0),decide (m.has (w / 8 / 64)))else(0,false)
theorem nM(h:CdAt H o i)(w:aC a):dz.C (some ⟨o.c,0,none⟩) a H (λv y=>v=.tuple #[vi (i.mem.genOf a).1,.bool (i.mem.genOf a).2]/\Ext H y):=by
 refine HC.via λR d=>dz.link ?_
 unfold dz.pt zY
 refine HC.mono (gc w) ?_
 rintro _ H1 ⟨rfl,g⟩
 have u: ∃(O:Int) (p:Bool),(if(a % 8=1\/a % 8=2\/a % 8=3\/a % 8=6)/\a / 8<65536 then Value.tuple #[vi (a / 8),vT]else .tuple #[vi 0,vF])=.tuple #[vi O,.bool p]/\((dH a/\p=true/\O=a / 8)\/(¬dH a/\p=false)):=by
  by_cases b:(a % 8=1\/a % 8=2\/a % 8=3\/a % 8=6)/\a / 8<65536
  ·rw[if_pos b];exact⟨_,_,rfl,.inl ⟨b,rfl,rfl⟩⟩
  ·rw[if_neg b];exact⟨_,_,rfl,.inr ⟨b,rfl⟩⟩
 obtain⟨O,p,u,I⟩:=u
 refine⟨O,p,u,?_⟩
 refine HC.mono (ik (h.ext g)) ?_
 rintro _ L ⟨rfl,rfl⟩
 refine⟨_,rfl,?_⟩
 rw[if_neg (by decide)]
 rcases I with⟨q,rfl,rfl⟩ | ⟨q,rfl⟩
 case inr=>
  rw[if_neg (by decide)]
  have e:i.mem.genOf a=(0,false):=by unfold Mem.genOf;rw[if_neg (λb=>q b.1)]
  rw[e]at d
  exact d _ _ ⟨rfl,g⟩
 rw[if_pos rfl]
 refine HC.mono (fp w) ?_
 rintro _ M ⟨rfl,r⟩
 refine⟨_,rfl,?_⟩
 by_cases m:a % 8=6
 ·rw[if_pos m]
  have e:i.mem.genOf a=(0,false):=by unfold Mem.genOf;rw[if_neg (λb=>b.2 m)]
  rw[e]at d
  exact d _ _ ⟨rfl,g.trans r⟩
 rw[if_neg m]
 have s:=h.ext (g.trans r)
 have K:a / 8<65536:=q.2
 have x:0<=a / 8:=by have:=w.1;omega
 refine⟨_,rfl,_,s.cPtr,_,rfl,_,s.sp.memPtr,?_⟩
 rw[gJ x,w64 (by omega)]
 refine HC.mono (gT s.sp.mem) ?_
 rintro _ z ⟨rfl,D⟩
 have e:i.mem.genOf a=((if i.mem.has (a / 8 / 64)then i.mem.seg (a / 8 / 64).toNat else Seg.none).gen,decide (i.mem.has (a / 8 / 64))):=by
  unfold Mem.genOf;rw[if_pos ⟨q,m⟩];by_cases b:i.mem.has (a / 8 / 64)
  ·rw[if_pos b,if_pos b]
  ·rw[if_neg b,if_neg b];rfl
 rw[e]at d
 generalize (if i.mem.has (a / 8 / 64)then i.mem.seg (a / 8 / 64).toNat else Seg.none)=f at d
 refine⟨_,_,_,_,_,_,_,_,rfl,λN A F k=>?_⟩
 obtain⟨G,J⟩:=boxed (vs:=[vi f.gen,vi f.kind,vi f.n,vi (f.cards 0),vi (f.cards 1),vi (f.cards 2),vi (f.cards 3)]) (H1:=A) (aL F k) rfl rfl
 refine⟨G,λB t=>?_⟩
 obtain⟨l,E⟩:=J B t
 have j:Ext H z:=(g.trans r).trans D
 exact⟨_,by have:=l.1;rw[addr_add_mk]at this;exact this,d _ _ ⟨rfl,E H (j.trans (Ext.push' k)) (by have:=j.size;omega)⟩⟩
def Mem.younger(m:Mem)(sg:Seg)(w mark:Int):Int:=if(m.genOf w).2=true/\sg.kind≠3/\(m.genOf w).1<sg.gen then min mark (m.genOf w).1 else mark
theorem iQ{sg:Seg}(h:CdAt H o i)(w:aC a):
  bQ.C (some ⟨o.c,0,none⟩) sg.gen sg.kind sg.n (sg.cards 0) (sg.cards 1) (sg.cards 2) (sg.cards 3) a b H (λv r=>v=vi (i.mem.younger sg a b)/\Ext H r):=by
 refine HC.via λR k=>bQ.link ?_
 unfold bQ.pt
 intro z s u f
 have m:Ext H s:=Ext.push' f
 have t:=aL u f
 refine HC.mono (nM (h.ext m) w) ?_
 rintro _ y ⟨rfl,p⟩
 have d:=m.trans p
 have q:=p.get t
 refine⟨_,_,rfl,?_⟩
 by_cases e:(i.mem.genOf a).2=true
 case neg=>
  rw[if_neg e]
  exact k _ _ ⟨by unfold Mem.younger;rw[if_neg (λg=>e g.1)],d⟩
 rw[if_pos e]
 refine⟨sg.kind,by rw[addr_add_mk,aH q];rfl,?_⟩
 by_cases hk:sg.kind=3
 ·rw[if_pos hk];exact k _ _ ⟨by unfold Mem.younger;rw[if_neg (λg=>g.2.1 hk)],d⟩
 rw[if_neg hk]
 refine⟨sg.gen,by rw[aH q];rfl,?_⟩
 by_cases l:(i.mem.genOf a).1<sg.gen
 ·rw[if_pos l]
  refine k _ _ ⟨?_,d⟩
  have j:(if(i.mem.genOf a).1<b then(i.mem.genOf a).1 else b)=min b (i.mem.genOf a).1:=by
   by_cases hm:(i.mem.genOf a).1<b
   ·rw[if_pos hm];omega
   ·rw[if_neg hm];omega
  have x:i.mem.younger sg a b=min b (i.mem.genOf a).1:=by
   unfold Mem.younger;rw[if_pos (show(i.mem.genOf a).2=true/\sg.kind≠3/\(i.mem.genOf a).1<sg.gen from⟨e,hk,l⟩)]
  rw[j,x]
 ·rw[if_neg l];exact k _ _ ⟨by unfold Mem.younger;rw[if_neg (λg=>l g.2.2)],d⟩
def Mem.store(m:Mem)(a w:Int):Mem×Int:=
 if m.used a then(m.set a w).mark (a / 64) (a % 64 / 16) ((m.set a w).younger ((m.set a w).seg (a / 64).toNat) w (((m.set a w).seg (a / 64).toNat).cards (a % 64 / 16).toNat))
 else(m,18)
theorem Mem.set_has:(d.set a b).has u ↔ d.has u:=by
 unfold Mem.has Mem.set
 rw[Mem.upd_limit,Mem.upd_seg]
 by_cases h:u.toNat=(a / 64).toNat
 ·rw[if_pos h];simp only[Seg.set,h]
 ·rw[if_neg h]
theorem jC(h:CdAt H o i)(U:SpOK i)(N:I64 a)(T:aC b):
  cE.C (some ⟨o.c,0,none⟩) a b H (λv B=>v=vi (i.mem.store a b).2/\CdAt B o {i with mem:=(i.mem.store a b).1}/\Fr [o.m,o.s] H B):=by
 refine HC.via λR q=>cE.link ?_
 unfold cE.pt zY
 refine HC.mono (ik h) ?_
 rintro _ H1 ⟨rfl,rfl⟩
 refine⟨_,rfl,?_⟩
 rw[if_neg (by decide)]
 refine⟨_,rfl,_,h.cPtr,_,rfl,_,h.sp.memPtr,?_⟩
 refine HC.mono (eQ h.sp.mem U.mem N.2) ?_
 rintro _ w ⟨rfl,f,L⟩
 refine⟨_,rfl,?_⟩
 have d:Fr [o.m,o.s] H1 w:=L.mono (λa1 g _=>by simp at g;simp[g])
 by_cases k:i.mem.used a
 case neg=>
  rw[if_neg k]at f
  have e:i.mem.store a b=(i.mem,18):=by unfold Mem.store;rw[if_neg k]
  rw[e]at q
  rw[if_neg k,if_neg (by decide)]
  exact q _ _ ⟨rfl,h.withMem d (by simp) f,d⟩
 rw[if_pos k]at f
 rw[if_pos k,if_pos rfl]
 have s:=h.withMem d (by simp) f
 have E:=k.1
 have r:(i.mem.set a b).has (a / 64):=Mem.set_has.2 k.2.1
 have V:IntKind.wrap .i64 (Int.tdiv a 64)=a / 64:=by rw[gJ E,w64 (by omega)]
 have W:IntKind.wrap .i64 (Int.tdiv (Int.tmod a 64) 16)=a % 64 / 16:=by rw[hM E,gJ (by omega),w64 (by omega)]
 refine⟨_,s.cPtr,_,rfl,_,s.sp.memPtr,?_⟩
 rw[V,W]
 refine HC.mono (gT s.sp.mem) ?_
 rintro _ X ⟨rfl,F⟩
 rw[if_pos r]
 have x:i.mem.store a b=(i.mem.set a b).mark (a / 64) (a % 64 / 16) ((i.mem.set a b).younger ((i.mem.set a b).seg (a / 64).toNat) b (((i.mem.set a b).seg (a / 64).toNat).cards (a % 64 / 16).toNat)):=by unfold Mem.store;rw[if_pos k]
 rw[x]at q
 generalize S:(i.mem.set a b).seg (a / 64).toNat=sg at q
 refine⟨_,_,_,_,_,_,_,_,rfl,λb1 K O p=>?_⟩
 obtain⟨P,Q⟩:=boxed (vs:=[vi sg.gen,vi sg.kind,vi sg.n,vi (sg.cards 0),vi (sg.cards 1),vi (sg.cards 2),vi (sg.cards 3)]) (H1:=K) (aL O p) rfl rfl
 refine⟨P,λD y=>?_⟩
 obtain⟨j,M⟩:=Q D y
 have l:Ext w D:=M w (F.trans (Ext.push' p)) (by have:=F.size;omega)
 have t:=s.ext l
 refine⟨_,t.cPtr,_,rfl,_,t.sp.memPtr,_,_,_,_,_,_,_,j,⟨by omega,by omega⟩,sg.cards (a % 64 / 16).toNat,?_,?_⟩
 ·have z:(a % 64 / 16).toNat=0\/(a % 64 / 16).toNat=1\/(a % 64 / 16).toNat=2\/(a % 64 / 16).toNat=3:=by omega
  simp only[addr_add_mk,Nat.mul_one,Nat.zero_add]
  have J:=fJ j (3+(a % 64 / 16).toNat)
  simp only[addr_add_mk,Nat.zero_add]at J
  refine J _ ?_
  rcases z with e | e | e | e<;>rw[e]<;>rfl
 refine HC.mono (iQ (sg:=sg) t T) ?_
 rintro _ Y ⟨rfl,G⟩
 have u:=t.ext G
 refine⟨_,rfl,⟨by rw[addr_add_mk];exact u.cPtr,trivial⟩,⟨by rw[addr_add_mk];exact u.sp.memPtr,trivial⟩,?_⟩
 refine HC.mono (kQ u.sp.mem) ?_
 rintro _ Z ⟨rfl,A,I⟩
 refine⟨_,rfl,q _ _ ⟨rfl,?_,?_⟩⟩
 ·exact u.withMem (I.mono (S':=[o.m,o.s]) (λa1 g _=>by simp at g;simp[g])) (by simp) A
 ·exact(d.trans (l.trans G).fr).trans (I.mono (λa1 g _=>by simp at g;simp[g]))
theorem nN(r:I64 a):
  gi.C a H (λv g=>(¬(8<=a/\a<=1024)/\v=.tuple #[vp none,vi 1]/\Ext H g)\/
   ((8<=a/\a<=1024)/\ ∃b:Blk,v=.tuple #[vp (some ⟨b.c,0,none⟩),vi 0]/\CdAt g b ⟨Mem.fresh a.toNat,λ_ _=>0⟩/\Ext H g/\H.size<=b.s/\b.s<b.m/\b.m<b.sp/\b.sp<b.c)):=by
 refine HC.via λR l=>gi.link ?_
 unfold gi.pt
 refine HC.mono (mY r) ?_
 rintro _ o (⟨hn,rfl,h⟩ | ⟨u,b,rfl,n,h,j,i,k⟩)
 ·refine⟨_,_,rfl,?_⟩
  rw[if_neg (by decide)]
  exact l _ _ (.inl ⟨hn,rfl,h⟩)
 ·refine⟨_,_,rfl,?_⟩
  rw[if_pos rfl]
  intro f w p d
  have t:b.sp<o.size:=by obtain⟨x,q,_⟩:=n.sp;exact bB q
  have e:=n.ext (Ext.push' d)
  refine l _ _ (.inr ⟨u,{b with c:=f},rfl,⟨⟨e.mem,e.ne,e.sp⟩,⟨by show f≠b.sp;omega,by show f≠b.m;omega,by show f≠b.s;omega⟩,aL p d⟩,h.trans (Ext.push' d),j,i,k,by show b.sp<f;omega⟩)
structure Hp where
 sp:Sp
 sy:Value
 en:Value
 ep:Int
variable{k:Option (Blk×Hp)}{C:Hp}
structure HpAt (H:zV) (b:Blk) (x:Hp):Prop where
 cd:CdAt H b x.sp
 ne:b.h≠b.c/\b.h≠b.sp/\b.h≠b.m/\b.h≠b.s
 h:H[b.h]?=some (.cells #[vp (some ⟨b.c,0,none⟩),x.sy,x.en,vu x.ep] 51 (0,0))
theorem HpAt.keep{S:List Nat}{x:Hp}(h:HpAt H o x)(f:Fr S H A)(b: ∀i,i∈S->i ∉ o.all):HpAt A o x:=
 ⟨h.cd.keep f (λa=>b _ a (by simp[Blk.all])) (λa=>b _ a (by simp[Blk.all])) (λa=>b _ a (by simp[Blk.all])) (λa=>b _ a (by simp[Blk.all])),h.ne,f.get (λa=>b _ a (by simp[Blk.all])) h.h⟩
theorem HpAt.ext{b:Blk}(h:HpAt H b C)(f:Ext H A):HpAt A b C:=h.keep (S:=[]) f.fr (by simp)
theorem HpAt.withCd{S:List Nat}(h:HpAt H o C)(f:Fr S H A)(a: ∀d,d∈S->d=o.sp\/d=o.m\/d=o.s)(b:CdAt A o i):HpAt A o {C with sp:=i}:=
 ⟨b,h.ne,f.get (λc=>by have:=a _ c;have:=h.ne;omega) h.h⟩
theorem HpAt.withSp{S:List Nat}(h:HpAt H o C)(f:Fr S H A)(a: ∀d,d∈S->d=o.sp\/d=o.m\/d=o.s)(b:SpAt A o i):HpAt A o {C with sp:=i}:=
 h.withCd f a (h.cd.withSp f (λc=>by have:=a _ c;have:=h.cd.ne;omega) b)
theorem HpAt.withMem{S:List Nat}{m:Mem}(h:HpAt H o C)(f:Fr S H A)(a: ∀i,i∈S->i=o.m\/i=o.s)(b:cw A o.m o.s m):HpAt A o {C with sp:={C.sp with mem:=m}}:=
 h.withCd f (λi c=> .inr (a i c)) (h.cd.withMem f a b)
theorem HpAt.hPtr(h:HpAt H o C):hat H ⟨o.h,0,none⟩=some (vp (some ⟨o.c,0,none⟩)):=by rw[aH h.h];rfl
theorem HpAt.lt{b:Blk}(h:HpAt H b C): ∀i,i∈b.all->i<H.size:=by
 intro i d
 have f:=bB h.h
 have g:=bB h.cd.c
 obtain⟨e,a,_⟩:=h.cd.sp.sp
 have j:=bB a
 have k:=h.cd.sp.mem.lt
 simp[Blk.all]at d
 omega
theorem tupb{p q:Bool}(h:p=q):Value.tuple #[vi a,.bool p]=.tuple #[vi a,.bool q]:=by rw[h]
inductive View (H:zV):zW->Option (Blk×Hp)->Prop
 | nobody:View H none none
 | empty {a:Addr} (h:hat H a=some (vp none)):View H (some a) none
 | real {b:Blk} {x:Hp} (h:HpAt H b x) (ok:SpOK x.sp):View H (some ⟨b.h,0,none⟩) (some (b,x))
def mof:Option (Blk×Hp)->Mem
 | none=>Mem.fresh 0
 | some (_,x)=>x.sp.mem
theorem View.ext(V:View H j k)(e:Ext H A):View A j k:=by
 cases V with
 | nobody=>exact .nobody
 | empty h=>exact .empty (e.hat h)
 | real h a=>exact .real (h.ext e) a
theorem iL: ¬(mof none).has a:=λh=>by have:=h.1;have:a< ((0:Nat):Int):=h.2.1;omega
theorem View.word(V:View H j k)(a:Int):aC ((mof k).get a):=by
 cases V with
 | nobody=>exact(by decide:aC 0)
 | empty h=>exact(by decide:aC 0)
 | real h b=>exact(b.mem.seg _).words _
theorem jl(V:View H j k):da.C j H (λv b=>v=.bool k.isNone/\b=H):=by
 refine HC.via λR a=>da.link ?_
 unfold da.pt
 cases V with
 | nobody=>rw[onPtr_none];exact a _ _ ⟨rfl,rfl⟩
 | empty h=>rw[onPtr_some];refine⟨_,h,?_⟩;rw[onPtr_none];exact a _ _ ⟨rfl,rfl⟩
 | real h c=>rw[onPtr_some];refine⟨_,h.hPtr,?_⟩;rw[onPtr_some];exact a _ _ ⟨rfl,rfl⟩
def Mem.atW(m:Mem)(w tag kind:Int):Prop:=dH w/\w % 8=tag/\m.has (w / 8 / 64)/\(m.seg (w / 8 / 64).toNat).kind=kind/\w / 8 % 64< (m.seg (w / 8 / 64).toNat).n
instance (m:Mem) (w tag kind:Int):Decidable (m.atW w tag kind):=by unfold Mem.atW;infer_instance
theorem Mem.atW.used{m:Mem}{w b a:Int}(h:m.atW w b a)(c:aC w):m.used (w / 8):=⟨by have:=c.1;omega,h.2.2.1,h.2.2.2.2⟩
theorem kR(V:View H j k)(Q:aC a):
  dV.C j a b u H (λv y=> ∃a2:Int,v=.tuple #[vi a2,.bool (decide ((mof k).atW a b u))]/\((mof k).atW a b u->a2=a / 8)/\Ext H y):=by
 refine HC.via λR M=>dV.link ?_
 unfold dV.pt zY
 refine HC.mono (gc Q) ?_
 rintro _ H1 ⟨rfl,A⟩
 have w: ∃(a2:Int) (p:Bool),(if(a % 8=1\/a % 8=2\/a % 8=3\/a % 8=6)/\a / 8<65536 then Value.tuple #[vi (a / 8),vT]else .tuple #[vi 0,vF])=.tuple #[vi a2,.bool p]/\((dH a/\p=true/\a2=a / 8)\/(¬dH a/\p=false)):=by
  by_cases I:(a % 8=1\/a % 8=2\/a % 8=3\/a % 8=6)/\a / 8<65536
  ·rw[if_pos I];exact⟨_,_,rfl,.inl ⟨I,rfl,rfl⟩⟩
  ·rw[if_neg I];exact⟨_,_,rfl,.inr ⟨I,rfl⟩⟩
 obtain⟨a2,p,w,W⟩:=w
 refine⟨a2,p,w,?_⟩
 refine HC.mono (jl (V.ext A)) ?_
 rintro _ Y ⟨rfl,rfl⟩
 refine⟨_,rfl,?_⟩
 have no: ∀(a2:Int) y,¬(mof k).atW a b u->Ext H y->R (.tuple #[vi a2,vF]) y:=λa2 y hn e=>M _ _ ⟨a2,by rw[zQ hn],λh=>absurd h hn,e⟩
 cases V with
 | nobody=>rw[if_pos (show(none:Option (Blk×Hp)).isNone=true from rfl)];exact no _ _ (λh=>iL h.2.2.1) A
 | empty h=>rw[if_pos (show(none:Option (Blk×Hp)).isNone=true from rfl)];exact no _ _ (λh=>iL h.2.2.1) A
 | @real a3 x h ok=>
  rw[if_neg (show ¬(some (a3,x)).isNone=true from Bool.false_ne_true)]
  rcases W with⟨G,rfl,rfl⟩ | ⟨G,rfl⟩
  case inr=>rw[if_neg (by decide)];exact no _ _ (λh=>G h.1) A
  rw[if_pos rfl]
  refine HC.mono (fp Q) ?_
  rintro _ Z ⟨rfl,U⟩
  refine⟨_,rfl,?_⟩
  have s:=A.trans U
  by_cases J:a % 8=b
  case neg=>rw[if_neg J];exact no _ _ (λh=>J h.2.1) s
  rw[if_pos J]
  have F:=h.ext s
  have X:a / 8<65536:=G.2
  have D:0<=a / 8:=by have:=Q.1;omega
  refine⟨_,rfl,_,F.hPtr,_,rfl,_,F.cd.cPtr,_,rfl,_,F.cd.sp.memPtr,?_⟩
  rw[gJ D,w64 (n:=a / 8 / 64) (by omega),hM D]
  refine HC.mono (gT F.cd.sp.mem) ?_
  rintro _ H4 ⟨rfl,S⟩
  show∃a2 a3 c d e f g q,_/\_
  have hm:mof (some (a3,x))=x.sp.mem:=rfl
  rw[hm]at no M
  by_cases i:x.sp.mem.has (a / 8 / 64)
  ·rw[if_pos i,zX i]
   generalize B:x.sp.mem.seg (a / 8 / 64).toNat=l at*
   refine⟨_,_,_,_,_,_,_,_,rfl,λT K N o=>?_⟩
   obtain⟨O,P⟩:=boxed (vs:=[vi l.gen,vi l.kind,vi l.n,vi (l.cards 0),vi (l.cards 1),vi (l.cards 2),vi (l.cards 3)]) (H1:=K) (aL N o) rfl rfl
   refine⟨O,λz t=>?_⟩
   obtain⟨r,L⟩:=P z t
   have m:=s.trans S
   have E:Ext H z:=L H (m.trans (Ext.push' o)) (by have:=m.size;omega)
   rw[if_pos rfl]
   refine⟨l.kind,r.2.1,?_⟩
   by_cases hk:l.kind=u
   ·rw[if_pos hk]
    refine⟨l.n,r.2.2.1,M _ _ ⟨_,?_,λ_=>rfl,E⟩⟩
    refine tupb ?_
    rw[decide_eq_decide]
    unfold Mem.atW
    rw[B]
    exact⟨λh=>⟨G,J,i,hk,h⟩,λh=>h.2.2.2.2⟩
   ·rw[if_neg hk]
    exact no _ _ (λh=>hk (by have:=h.2.2.2.1;rw[B]at this;exact this)) E
  ·rw[if_neg i,zQ i]
   generalize Seg.none=l
   refine⟨_,_,_,_,_,_,_,_,rfl,λT K N o=>?_⟩
   obtain⟨O,P⟩:=boxed (vs:=[vi l.gen,vi l.kind,vi l.n,vi (l.cards 0),vi (l.cards 1),vi (l.cards 2),vi (l.cards 3)]) (H1:=K) (aL N o) rfl rfl
   refine⟨O,λz t=>?_⟩
   obtain⟨r,L⟩:=P z t
   have m:=s.trans S
   have E:Ext H z:=L H (m.trans (Ext.push' o)) (by have:=m.size;omega)
   rw[if_neg (by decide)]
   exact no _ _ (λh=>i h.2.2.1) E
def fu(x:Int):Prop:=x % 8=5/\(1<=x / 8 % 32/\x / 8 % 32<=13/\x / 256 % 256<=62)
instance (x:Int):Decidable (fu x):=by unfold fu;infer_instance
def hk(x:Int):Int:=x / 8 % 32
def hn(x:Int):Int:=x / 256 % 256
def hm(x:Int):Int:=x / 65536
def rawK(k:Int):Int:=if k=2\/k=3 then 3 else 2
theorem lW:gH.C a H (λv c=>v=vi (rawK a)/\c=H):=by
 refine HC.via λR b=>gH.link ?_
 unfold gH.pt
 by_cases h:a=2\/a=3
 ·rw[if_pos (by simpa using h)];exact b _ _ ⟨by unfold rawK;rw[if_pos h],rfl⟩
 ·rw[if_neg (by simpa using h)];exact b _ _ ⟨by unfold rawK;rw[if_neg h],rfl⟩
def Mem.isObj(m:Mem)(w:Int):Prop:=m.atW w 3 (rawK (hk (m.get (w / 8))))/\fu (m.get (w / 8))/\w / 8 % 64+hn (m.get (w / 8))< (m.seg (w / 8 / 64).toNat).n
instance (m:Mem) (w:Int):Decidable (m.isObj w):=by unfold Mem.isObj;infer_instance
theorem ms(V:View H j k)(X:aC a):
  bK.C j a H (λv g=>v=(if(mof k).isObj a then .tuple #[vi (a / 8),vi (hk ((mof k).get (a / 8))),vi (hn ((mof k).get (a / 8))),vu (hm ((mof k).get (a / 8))),vT]
   else .tuple #[vi 0,vi 0,vi 0,vu 0,vF])/\Ext H g):=by
 refine HC.via λR hR=>bK.link ?_
 unfold bK.pt zY
 refine⟨λi g=>(0<=i/\i<=2)/\Ext H g/\(1<=i-> ¬((mof k).isObj a/\rawK (hk ((mof k).get (a / 8)))=2))/\(2<=i-> ¬((mof k).isObj a/\rawK (hk ((mof k).get (a / 8)))=3)),λi _=>(2-i).toNat,⟨by omega,Ext.refl _,λh=>by omega,λh=>by omega⟩,?_⟩
 rintro i H1 ⟨hi,O,n2,n3⟩
 by_cases s:i<2
 case neg=>
  rw[if_neg s]
  refine hR _ _ ⟨?_,O⟩
  rw[if_neg]
  intro hO
  by_cases e:rawK (hk ((mof k).get (a / 8)))=2
  ·exact n2 (by omega) ⟨hO,e⟩
  ·refine n3 (by omega) ⟨hO,?_⟩
   unfold rawK at e⊢
   by_cases h:hk ((mof k).get (a / 8))=2\/hk ((mof k).get (a / 8))=3
   ·rw[if_pos h]
   ·rw[if_neg h]at e;exact absurd rfl e
 rw[if_pos s]
 have Y: ∃x:Int,(#[vi 2,vi 3]:Array Value)[i.toNat]?=some (vi x)/\((i=0/\x=2)\/(i=1/\x=3)):=by
  have:i=0\/i=1:=by omega
  rcases this with rfl | rfl
  ·exact⟨2,rfl,.inl ⟨rfl,rfl⟩⟩
  ·exact⟨3,rfl,.inr ⟨rfl,rfl⟩⟩
 obtain⟨x,Y,E⟩:=Y
 refine⟨x,⟨⟨hi.1,s⟩,Y⟩,?_⟩
 have V1:=V.ext O
 rw[w64 (n:=i+1) (by omega)]
 have next: ∀g,Ext H g-> ¬((mof k).isObj a/\rawK (hk ((mof k).get (a / 8)))=x)->((0<=i+1/\i+1<=2)/\Ext H g/\(1<=i+1-> ¬((mof k).isObj a/\rawK (hk ((mof k).get (a / 8)))=2))/\(2<=i+1-> ¬((mof k).isObj a/\rawK (hk ((mof k).get (a / 8)))=3)))/\(2-(i+1)).toNat< (2-i).toNat:=by
  intro g e' F
  refine⟨⟨by omega,e',λ_=>?_,λw=>?_⟩,by omega⟩
  ·rcases E with⟨rfl,rfl⟩ | ⟨rfl,rfl⟩
   ·exact F
   ·exact n2 (by omega)
  ·rcases E with⟨rfl,rfl⟩ | ⟨rfl,rfl⟩
   ·omega
   ·exact F
 refine HC.mono (kR V1 X) ?_
 rintro _ H2 ⟨ax,rfl,ha,e2⟩
 refine⟨_,_,rfl,?_⟩
 have l:=O.trans e2
 by_cases c:(mof k).atW a 3 x
 case neg=>
  rw[if_neg (by simpa using c)]
  exact next _ l (λh=>c (by rw[<-h.2];exact h.1.1))
 rw[if_pos (zX c),ha c]
 have J:0<=a / 8:=by have:=X.1;omega
 have al:a / 8<65536:=c.1.2
 cases V with
 | nobody=>exact absurd c.2.2.1 iL
 | empty h=>exact absurd c.2.2.1 iL
 | @real b y h ok=>
  have U:mof (some (b,y))=y.sp.mem:=rfl
  rw[U]at*
  have w:=h.ext l
  have hu:y.sp.mem.used (a / 8):=c.used X
  refine⟨_,rfl,_,w.hPtr,_,rfl,_,w.cd.cPtr,_,rfl,_,w.cd.sp.memPtr,?_⟩
  refine HC.mono (fF w.cd.sp.mem ok.mem (by omega)) ?_
  rintro _ H3 ⟨rfl,rfl⟩
  rw[if_pos hu]
  refine⟨_,_,rfl,?_⟩
  have Z:aC (y.sp.mem.get (a / 8)):=(ok.mem.seg _).words _
  refine HC.mono (mV Z) ?_
  rintro _ H4 ⟨rfl,e4⟩
  have u: ∃(p q r:Int) (d:Bool),(if y.sp.mem.get (a / 8) % 8=5/\(1<=y.sp.mem.get (a / 8) / 8 % 32/\y.sp.mem.get (a / 8) / 8 % 32<=13/\y.sp.mem.get (a / 8) / 256 % 256<=62)then Value.tuple #[vi (y.sp.mem.get (a / 8) / 8 % 32),vi (y.sp.mem.get (a / 8) / 256 % 256),vu (y.sp.mem.get (a / 8) / 65536),vT]else .tuple #[vi 0,vi 0,vu 0,vF])=.tuple #[vi p,vi q,vu r,.bool d]/\
    ((fu (y.sp.mem.get (a / 8))/\d=true/\p=hk (y.sp.mem.get (a / 8))/\q=hn (y.sp.mem.get (a / 8))/\r=hm (y.sp.mem.get (a / 8)))\/(¬fu (y.sp.mem.get (a / 8))/\d=false)):=by
   by_cases N:fu (y.sp.mem.get (a / 8))
   ·have o:y.sp.mem.get (a / 8) % 8=5/\(1<=y.sp.mem.get (a / 8) / 8 % 32/\y.sp.mem.get (a / 8) / 8 % 32<=13/\y.sp.mem.get (a / 8) / 256 % 256<=62):=N
    rw[if_pos o];exact⟨_,_,_,_,rfl,.inl ⟨N,rfl,rfl,rfl,rfl⟩⟩
   ·have o: ¬(y.sp.mem.get (a / 8) % 8=5/\(1<=y.sp.mem.get (a / 8) / 8 % 32/\y.sp.mem.get (a / 8) / 8 % 32<=13/\y.sp.mem.get (a / 8) / 256 % 256<=62)):=N
    rw[if_neg o];exact⟨_,_,_,_,rfl,.inr ⟨N,rfl⟩⟩
  obtain⟨p,q,r,d,u,Q⟩:=u
  refine⟨p,q,r,d,u,?_⟩
  have L:=w.ext e4
  refine⟨_,L.hPtr,_,rfl,_,L.cd.cPtr,_,rfl,_,L.cd.sp.memPtr,?_⟩
  rw[gJ J,w64 (n:=a / 8 / 64) (by omega),hM J]
  refine HC.mono (gT L.cd.sp.mem) ?_
  rintro _ H5 ⟨rfl,e5⟩
  have D:y.sp.mem.has (a / 8 / 64):=c.2.2.1
  rw[if_pos D]
  have W:=(ok.mem.seg (a / 8 / 64).toNat).n
  have S:=c.2.2.2.1
  have T:=c.2.2.2.2
  generalize I:y.sp.mem.seg (a / 8 / 64).toNat=f at W S T⊢
  refine⟨_,_,_,_,_,_,_,_,rfl,λb1 H6 hb A=>?_⟩
  obtain⟨hc,hs⟩:=boxed (vs:=[vi f.gen,vi f.kind,vi f.n,vi (f.cards 0),vi (f.cards 1),vi (f.cards 2),vi (f.cards 3)]) (H1:=H6) (aL hb A) rfl rfl
  refine⟨hc,λH7 P=>?_⟩
  obtain⟨G,hE⟩:=hs H7 P
  have z:=(l.trans e4).trans e5
  have K:Ext H H7:=hE H (z.trans (Ext.push' A)) (by have:=z.size;omega)
  rcases Q with⟨t,rfl,rfl,rfl,rfl⟩ | ⟨t,rfl⟩
  case inr=>
   rw[if_neg (by decide)]
   exact next _ K (λh=>t h.1.2.1)
  rw[if_pos rfl]
  refine HC.mono lW ?_
  rintro _ H8 ⟨rfl,rfl⟩
  refine⟨_,rfl,?_⟩
  by_cases e:rawK (hk (y.sp.mem.get (a / 8)))=x
  case neg=>rw[if_neg e];exact next _ K (λh=>e h.2)
  rw[if_pos e]
  refine⟨f.n,G.2.2.1,?_⟩
  have ai:0<=hn (y.sp.mem.get (a / 8))/\hn (y.sp.mem.get (a / 8))<=255:=by unfold hn;omega
  rw[w64 (n:=a / 8 % 64+hn (y.sp.mem.get (a / 8))) (by omega)]
  by_cases M:a / 8 % 64+hn (y.sp.mem.get (a / 8))<f.n
  ·rw[if_pos M]
   refine hR _ _ ⟨?_,K⟩
   have B:y.sp.mem.isObj a:=⟨by rw[e];exact c,t,by rw[I];exact M⟩
   have m:(mof (some (b,y))).isObj a:=B
   rw[if_pos m];rfl
  ·rw[if_neg M]
   exact next _ K (λh=>M (by have h3:a / 8 % 64+hn (y.sp.mem.get (a / 8))< (y.sp.mem.seg (a / 8 / 64).toNat).n:=h.1.2.2;rw[I]at h3;exact h3))
def Mem.typ(m:Mem)(w:Int):Int:=if m.isObj w then hk (m.get (w / 8))else 0
def Mem.len(m:Mem)(w:Int):Int:=if m.isObj w then hn (m.get (w / 8))else 0
def Mem.more(m:Mem)(w:Int):Int:=if m.isObj w then hm (m.get (w / 8))else 0
theorem gI(V:View H j k)(c:aC a):
  bK.C j a H (λv b=>v=.tuple #[vi (if(mof k).isObj a then a / 8 else 0),vi ((mof k).typ a),vi ((mof k).len a),vu ((mof k).more a),.bool (decide ((mof k).isObj a))]/\Ext H b):=by
 refine HC.mono (ms V c) ?_
 rintro _ d ⟨rfl,e⟩
 refine⟨?_,e⟩
 unfold Mem.typ Mem.len Mem.more
 by_cases h:(mof k).isObj a
 ·simp only[if_pos h,zX h]
 ·simp only[if_neg h,zQ h]
theorem nO(V:View H j k)(e:aC a):
  dJ.C j a H (λv b=>v=vi ((mof k).typ a)/\Ext H b):=by
 refine HC.via λR d=>dJ.link ?_
 unfold dJ.pt
 refine HC.mono (gI V e) ?_
 rintro _ f ⟨rfl,c⟩
 exact⟨_,_,_,_,_,rfl,d _ _ ⟨rfl,c⟩⟩
theorem oZ(V:View H j k)(e:aC a):
  eD.C j a H (λv b=>v=vi ((mof k).len a)/\Ext H b):=by
 refine HC.via λR d=>eD.link ?_
 unfold eD.pt
 refine HC.mono (gI V e) ?_
 rintro _ f ⟨rfl,c⟩
 exact⟨_,_,_,_,_,rfl,d _ _ ⟨rfl,c⟩⟩
def Mem.fieldE(m:Mem)(w kind i:Int):Int:=if ¬m.isObj w\/m.typ w≠kind then 3 else if i<0\/m.len w<=i then 4 else 0
theorem Mem.isObj.len_lt(h:d.isObj a):0<=hn (d.get (a / 8))/\hn (d.get (a / 8))<=62:=by
 have:=h.2.1;unfold fu at this;unfold hn;omega
theorem ki(V:View H j k)(l:aC a)(s:I64 u):
  cZ.C j a b u H (λv m=>v=.tuple #[vi (if(mof k).fieldE a b u=0 then a / 8+1+u else 0),vi ((mof k).fieldE a b u)]/\Ext H m):=by
 refine HC.via λR d=>cZ.link ?_
 unfold cZ.pt zY
 refine HC.mono (gI V l) ?_
 rintro _ r ⟨rfl,i⟩
 refine⟨_,_,_,_,_,rfl,?_⟩
 by_cases c: ¬(mof k).isObj a\/(mof k).typ a≠b
 ·rw[if_pos (by simpa using c)]
  have e:(mof k).fieldE a b u=3:=by unfold Mem.fieldE;rw[if_pos c]
  rw[e]at d
  exact d _ _ ⟨rfl,i⟩
 rw[if_neg (by simpa using c)]
 by_cases f:u<0\/(mof k).len a<=u
 ·rw[if_pos (by simpa using f)]
  have e:(mof k).fieldE a b u=4:=by unfold Mem.fieldE;rw[if_neg c,if_pos f]
  rw[e]at d
  exact d _ _ ⟨rfl,i⟩
 rw[if_neg (by simpa using f)]
 have e:(mof k).fieldE a b u=0:=by unfold Mem.fieldE;rw[if_neg c,if_neg f]
 rw[e]at d
 have g:(mof k).isObj a:=Classical.byContradiction λh=>c (.inl h)
 have q:a / 8<65536:=g.1.1.2
 have p:0<=a / 8:=by have:=l.1;omega
 have t:=g.len_lt
 have o:(mof k).len a=hn ((mof k).get (a / 8)):=by unfold Mem.len;rw[if_pos g]
 rw[if_pos g,w64 (n:=a / 8+1) (by omega),w64 (n:=a / 8+1+u) (by omega)]
 exact d _ _ ⟨rfl,i⟩
theorem Mem.isObj.used{m:Mem}{w i:Int}(h:m.isObj w)(e:aC w)(b:(m.seg (w / 8 / 64).toNat).n<=64)(j:0<=i/\i<m.len w):m.used (w / 8+1+i):=by
 have f:0<=w / 8:=by have:=e.1;omega
 have d:m.len w=hn (m.get (w / 8)):=by unfold Mem.len;rw[if_pos h]
 have g:=h.2.2
 have a:(w / 8+1+i) / 64=w / 8 / 64:=by omega
 have c:(w / 8+1+i) % 64=w / 8 % 64+1+i:=by omega
 exact⟨by omega,by rw[a];exact h.1.2.2.1,by rw[a,c];omega⟩
theorem View.n64(V:View H j k)(b:Nat):((mof k).seg b).n<=64:=by
 cases V with
 | nobody=>exact(by decide:(0:Int)<=64)
 | empty h=>exact(by decide:(0:Int)<=64)
 | real h a=>exact(a.mem.seg b).n.2
theorem Mem.fieldE_0(h:d.fieldE a b u=0):d.isObj a/\d.typ a=b/\0<=u/\u<d.len a:=by
 unfold Mem.fieldE at h
 by_cases c: ¬d.isObj a\/d.typ a≠b
 ·rw[if_pos c]at h;cases h
 rw[if_neg c]at h
 by_cases e:u<0\/d.len a<=u
 ·rw[if_pos e]at h;cases h
 ·exact⟨Classical.byContradiction λh=>c (.inl h),Classical.byContradiction λh=>c (.inr h),by omega,by omega⟩
theorem iV{w kind i:Int}(V:View H j k)(o:aC w)(q:I64 i):
  dd.C j w kind i H (λv p=>v=.tuple #[vu (if(mof k).fieldE w kind i=0 then(mof k).get (w / 8+1+i)else 0),vi ((mof k).fieldE w kind i)]/\Ext H p):=by
 refine HC.via λR n=>dd.link ?_
 unfold dd.pt
 refine HC.mono (ki V o q) ?_
 rintro _ u ⟨rfl,f⟩
 refine⟨_,_,rfl,?_⟩
 by_cases a:(mof k).fieldE w kind i=0
 case neg=>rw[if_neg a];exact n _ _ ⟨by rw[if_neg a],f⟩
 rw[if_pos a,if_pos a]
 obtain⟨c,_,g,d⟩:=Mem.fieldE_0 a
 have r:=c.used o (V.n64 _) ⟨g,d⟩
 cases V with
 | nobody=>exact absurd c.1.2.2.1 iL
 | empty h=>exact absurd c.1.2.2.1 iL
 | @real b x h t=>
  have e:=h.ext f
  refine⟨_,rfl,_,e.hPtr,_,rfl,_,e.cd.cPtr,_,rfl,_,e.cd.sp.memPtr,?_⟩
  have z:=c.len_lt
  have s:w / 8<65536:=c.1.1.2
  have l:(mof (some _)).len w=_:=if_pos c
  refine HC.mono (fF e.cd.sp.mem t.mem (by rw[l]at d;omega)) ?_
  rintro _ y ⟨rfl,rfl⟩
  have m:x.sp.mem.used (w / 8+1+i):=r
  rw[if_pos m]
  refine⟨_,_,rfl,n _ _ ⟨?_,f⟩⟩
  rw[if_pos a,a];rfl
def Hp.setMem(x:Hp)(m:Mem):Hp:={x with sp:={x.sp with mem:=m}}
theorem SpOK.withMem(j:SpOK i){m:Mem}(hm:aV m)(f: ∀k,i.mem.has k->m.has k)(a: ∀k,(m.seg k).gen=(i.mem.seg k).gen/\(m.seg k).kind=(i.mem.seg k).kind):SpOK {i with mem:=m}:=
 ⟨hm,λg k=>by
  rcases j.cur g k with h | ⟨b,c,d,e⟩
  ·exact .inl h
  ·exact .inr ⟨b,f _ c,by rw[<-d];exact(a _).1,by rw[<-e];exact(a _).2⟩⟩
theorem Mem.mark_has{j:Int}:(d.mark a b u).1.has j ↔ d.has j:=by
 unfold Mem.mark
 split
 ·exact Iff.rfl
 split
 ·exact Iff.rfl
 ·unfold Mem.has
  show(0<=j/\j< (d.limit:Int)/\((d.upd a.toNat ((d.seg a.toNat).mark b.toNat u)).seg j.toNat).taken≠0) ↔ _
  rw[Mem.upd_seg]
  by_cases h:j.toNat=a.toNat
  ·rw[if_pos h,h];rfl
  ·rw[if_neg h]
theorem Mem.mark_seg{m:Mem}{k c v:Int}(j:Nat):((m.mark k c v).1.seg j).gen=(m.seg j).gen/\((m.mark k c v).1.seg j).kind=(m.seg j).kind/\((m.mark k c v).1.seg j).n=(m.seg j).n/\((m.mark k c v).1.seg j).words=(m.seg j).words:=by
 unfold Mem.mark
 split
 ·exact⟨rfl,rfl,rfl,rfl⟩
 split
 ·exact⟨rfl,rfl,rfl,rfl⟩
 ·show((m.upd k.toNat ((m.seg k.toNat).mark c.toNat v)).seg j).gen=_/\((m.upd k.toNat ((m.seg k.toNat).mark c.toNat v)).seg j).kind=_/\((m.upd k.toNat ((m.seg k.toNat).mark c.toNat v)).seg j).n=_/\((m.upd k.toNat ((m.seg k.toNat).mark c.toNat v)).seg j).words=_
  rw[Mem.upd_seg]
  by_cases h:j=k.toNat
  ·rw[if_pos h,h];exact⟨rfl,rfl,rfl,rfl⟩
  ·rw[if_neg h];exact⟨rfl,rfl,rfl,rfl⟩
theorem Mem.set_seg{m:Mem}{a w:Int}(j:Nat):((m.set a w).seg j).gen=(m.seg j).gen/\((m.set a w).seg j).kind=(m.seg j).kind/\((m.set a w).seg j).n=(m.seg j).n:=by
 unfold Mem.set
 rw[Mem.upd_seg]
 by_cases h:j=(a / 64).toNat
 ·rw[if_pos h,h];exact⟨rfl,rfl,rfl⟩
 ·rw[if_neg h];exact⟨rfl,rfl,rfl⟩
theorem aV.store{m:Mem}(b:aV m)(a:Int){w:Int}(c:aC w):aV (m.store a w).1:=by
 unfold Mem.store
 split
 ·exact(b.set a c).mark _ _ _
 ·exact b
theorem Mem.store_seg{m:Mem}{a w:Int}(j:Nat):((m.store a w).1.seg j).gen=(m.seg j).gen/\((m.store a w).1.seg j).kind=(m.seg j).kind/\((m.store a w).1.seg j).n=(m.seg j).n:=by
 unfold Mem.store
 split
 ·have b:=Mem.mark_seg (m:=m.set a w) (k:=a / 64) (c:=a % 64 / 16) (v:=(m.set a w).younger ((m.set a w).seg (a / 64).toNat) w (((m.set a w).seg (a / 64).toNat).cards (a % 64 / 16).toNat)) j
  have d:=Mem.set_seg (m:=m) (a:=a) (w:=w) j
  exact⟨b.1.trans d.1,b.2.1.trans d.2.1,b.2.2.1.trans d.2.2⟩
 ·exact⟨rfl,rfl,rfl⟩
theorem Mem.store_has:(d.store a b).1.has u ↔ d.has u:=by
 unfold Mem.store
 split
 ·exact Mem.mark_has.trans Mem.set_has
 ·exact Iff.rfl
theorem SpOK.store(b:SpOK i)(a:Int){w:Int}(c:aC w):SpOK {i with mem:=(i.mem.store a w).1}:=
 b.withMem (b.mem.store a c) (λk h=>Mem.store_has.2 h) (λk=>⟨(Mem.store_seg k).1,(Mem.store_seg k).2.1⟩)
def setO(o:Option (Blk×Hp))(w kind i v:Int):Option (Blk×Hp):=
 match o with
 | none=>none
 | some (b,x)=>some (b,x.setMem (if x.sp.mem.fieldE w kind i=0 then(x.sp.mem.store (w / 8+1+i) v).1 else x.sp.mem))
def setE(o:Option (Blk×Hp))(w kind i v:Int):Int:=if(mof o).fieldE w kind i=0 then((mof o).store (w / 8+1+i) v).2 else(mof o).fieldE w kind i
def own(o:Option (Blk×Hp)):List Nat:=match o with | none=> [] | some (b,_)=> [b.sp,b.m,b.s]
theorem o0{v:Int}(V:View H j k)(w:aC a)(z:I64 u)(g:aC v):
  di.C j a b u v H (λK s=>K=vi (setE k a b u v)/\View s j (setO k a b u v)/\Fr (own k) H s):=by
 refine HC.via λR n=>di.link ?_
 unfold di.pt
 refine HC.mono (ki V w z) ?_
 rintro _ E ⟨rfl,i⟩
 refine⟨_,_,rfl,?_⟩
 by_cases c:(mof k).fieldE a b u=0
 case neg=>
  rw[if_neg c]
  have e:setE k a b u v=(mof k).fieldE a b u:=by unfold setE;rw[if_neg c]
  have l:setO k a b u v=k:=by
   unfold setO
   match k,c with
   | none,_=>rfl
   | some (I,x),c=>
    have d: ¬x.sp.mem.fieldE a b u=0:=c
    simp only;rw[if_neg d];rfl
  rw[e,l]at n
  exact n _ _ ⟨rfl,V.ext i,i.fr⟩
 rw[if_pos c,if_pos c]
 obtain⟨f,_,A,p⟩:=Mem.fieldE_0 c
 cases V with
 | nobody=>exact absurd f.1.2.2.1 iL
 | empty h=>exact absurd f.1.2.2.1 iL
 | @real I x h y=>
  have m:=h.ext i
  have G:=f.len_lt
  have D:a / 8<65536:=f.1.1.2
  have B:0<=a / 8:=by have:=w.1;omega
  have r:(mof (some (I,x))).len a=_:=if_pos f
  refine⟨_,rfl,_,m.hPtr,?_⟩
  refine HC.mono (jC m.cd y ⟨by omega,by rw[r]at p;omega⟩ g) ?_
  rintro _ F ⟨rfl,o,t⟩
  refine⟨_,rfl,n _ _ ⟨?_,?_,?_⟩⟩
  ·unfold setE;rw[if_pos c];rfl
  ·have d:x.sp.mem.fieldE a b u=0:=c
   have l:setO (some (I,x)) a b u v=some (I,x.setMem (x.sp.mem.store (a / 8+1+u) v).1):=by unfold setO;simp only;rw[if_pos d]
   rw[l]
   exact .real (m.withCd t (λJ q=>by simp at q;omega) o) (y.store _ g)
  ·exact(i.fr (S:=own (some (I,x)))).trans (t.mono (λJ q _=>by simp at q;simp[own];omega))
theorem eK.ext{b:List Value}(h:eK H j b)(e:Ext H A):eK A j b:=by
 cases j with
 | none=>exact h
 | some a=>exact e.rowAt h
theorem lX{limit:Int}(p:I64 limit):
  gG.C limit H (λv g=>(¬(8<=limit/\limit<=1024)/\v=.tuple #[vp none,vi 1]/\Ext H g)\/
   ((8<=limit/\limit<=1024)/\ ∃(b:Blk) (x:Hp),v=.tuple #[vp (some ⟨b.h,0,none⟩),vi 0]/\View g (some ⟨b.h,0,none⟩) (some (b,x))/\x=⟨⟨Mem.fresh limit.toNat,λ_ _=>0⟩,vN,vN,0⟩/\Ext H g/\(∀i,i∈b.all->H.size<=i))):=by
 refine HC.via λR j=>gG.link ?_
 unfold gG.pt
 refine HC.mono (nN p) ?_
 rintro _ l (⟨hn,rfl,f⟩ | ⟨r,b,rfl,k,f,u,w,y,z⟩)
 ·refine⟨_,_,rfl,?_⟩
  rw[if_neg (by decide)]
  exact j _ _ (.inl ⟨hn,rfl,f⟩)
 ·refine⟨_,_,rfl,?_⟩
  rw[if_pos rfl]
  intro e t n d
  have q:b.c<l.size:=bB k.c
  have a:=k.ext (Ext.push' d)
  refine j _ _ (.inr ⟨r,{b with h:=e},_,rfl,.real ⟨⟨⟨a.sp.mem,a.sp.ne,a.sp.sp⟩,a.ne,a.c⟩,⟨by show e≠b.c;omega,by show e≠b.sp;omega,by show e≠b.m;omega,by show e≠b.s;omega⟩,aL n d⟩ (nL ⟨by omega,by omega⟩),rfl,f.trans (Ext.push' d),λi o=>?_⟩)
  simp[Blk.all]at o
  have:=f.size
  omega
abbrev wvs(ws:List Int):List Value:=ws.map (Value.int .u64)
theorem jm: ∀a:List Int,ir (wvs a)=true
 | []=>rfl
 | w::a=>by show(true && ir (wvs a))=true;rw[jm a];rfl
structure Grown (m m':Mem) (a n g k:Int):Prop where
 limit:m'.limit=m.limit
 addr:0<=a/\a / 64<m.limit/\a % 64+n<=64
 new:(m'.seg (a / 64).toNat).taken≠0/\(m'.seg (a / 64).toNat).gen=g/\(m'.seg (a / 64).toNat).kind=k/\(m'.seg (a / 64).toNat).n=a % 64+n
 old:(m.seg (a / 64).toNat).taken≠0->(m.seg (a / 64).toNat).gen=g/\(m.seg (a / 64).toNat).kind=k/\(m.seg (a / 64).toNat).n=a % 64/\(m'.seg (a / 64).toNat).words=(m.seg (a / 64).toNat).words/\(m'.seg (a / 64).toNat).cards=(m.seg (a / 64).toNat).cards/\(m'.seg (a / 64).toNat).taken=(m.seg (a / 64).toNat).taken
 fresh:(m.seg (a / 64).toNat).taken=0->a % 64=0
 others: ∀i,i≠(a / 64).toNat->m'.seg i=m.seg i
 free:m.free-1<=m'.free
 count:m'.count<=m.count+1
theorem Mem.bump_ok(g:aV d)(h:(d.bump a b).2.2=0):d.has a/\1<=b/\(d.seg a.toNat).n+b<=64/\d.bump a b=(d.upd a.toNat ((d.seg a.toNat).bump b),a*64+(d.seg a.toNat).n,0):=by
 unfold Mem.bump at*
 by_cases hk:d.has a
 case neg=>rw[if_pos hk]at h;exact absurd h (by show ¬((19:Int)=0);decide)
 rw[if_neg (λf=>f hk)]at h⊢
 by_cases c:b<1
 ·rw[if_pos c]at h;exact absurd h (by show ¬((1:Int)=0);decide)
 rw[if_neg c]at h⊢
 by_cases e:64-(d.seg a.toNat).n<b
 ·rw[if_pos e]at h;exact absurd h (by show ¬((2:Int)=0);decide)
 rw[if_neg e]at h⊢
 exact⟨hk,by omega,by omega,rfl⟩
theorem Mem.bump_can(hk:d.has a)(e:1<=b)(f:(d.seg a.toNat).n+b<=64):(d.bump a b).2.2=0:=by
 unfold Mem.bump
 rw[if_neg (λc=>c hk),if_neg (by omega),if_neg (by omega)]
theorem Sp.alloc_ok(l:SpOK i)(h:(i.alloc a b u).2.2=0):SpOK (i.alloc a b u).1/\Grown i.mem (i.alloc a b u).1.mem (i.alloc a b u).2.1 u a b:=by
 have M:=l.mem.lim
 unfold Sp.alloc at*
 by_cases hm:may a b u
 case neg=>rw[if_pos hm]at h;exact absurd h (by show ¬((1:Int)=0);decide)
 rw[if_neg (λP=>P hm)]at h⊢
 have R:=hm.1
 have hk:0<=b/\b<=3:=by have:=hm.2;omega
 have hn:1<=u/\u<=63:=by have:=hm.2;omega
 by_cases E:i.cur a.toNat b.toNat≠0/\(i.mem.bump (i.cur a.toNat b.toNat-1) u).2.2=0
 ·rw[if_pos E]at h⊢
  obtain⟨A,N,o,y⟩:=Mem.bump_ok l.mem E.2
  rcases l.cur a.toNat b.toNat with q | ⟨I,g,C,D⟩
  ·exact absurd q E.1
  generalize S:i.cur a.toNat b.toNat-1=j at*
  have Q:=(l.mem.seg j.toNat).n
  have T:=g.1
  have w:(j*64+(i.mem.seg j.toNat).n) / 64=j:=by omega
  have x:(j*64+(i.mem.seg j.toNat).n) % 64=(i.mem.seg j.toNat).n:=by omega
  have f:=l.mem.bump j u
  rw[y]at f⊢
  refine⟨?_,?_⟩
  ·refine l.withMem f (λU k=>⟨k.1,k.2.1,?_⟩) (λU=>?_)
   ·rw[Mem.upd_seg]
    by_cases e:U.toNat=j.toNat
    ·rw[if_pos e];exact g.2.2
    ·rw[if_neg e];exact k.2.2
   ·rw[Mem.upd_seg]
    by_cases e:U=j.toNat
    ·rw[if_pos e,e];exact⟨rfl,rfl⟩
    ·rw[if_neg e];exact⟨rfl,rfl⟩
  ·refine⟨rfl,⟨by show 0<=j*64+(i.mem.seg j.toNat).n;omega,by show(j*64+(i.mem.seg j.toNat).n) / 64<_;rw[w];exact g.2.1,by show(j*64+(i.mem.seg j.toNat).n) % 64+u<=64;rw[x];exact o⟩,?_,?_,?_,?_,by show _<=i.mem.free;omega,by show i.mem.count<=_;omega⟩<;>simp only[w,x]
   ·rw[Mem.upd_same];exact⟨g.2.2,by rw[show((i.mem.seg j.toNat).bump u).gen=_ from C];omega,by rw[show((i.mem.seg j.toNat).bump u).kind=_ from D];omega,rfl⟩
   ·intro _;rw[Mem.upd_same];refine⟨by rw[C];omega,by rw[D];omega,?_⟩;first | exact⟨rfl,rfl,rfl,rfl⟩ | exact⟨trivial,rfl,rfl,rfl⟩
   ·intro q;exact absurd q g.2.2
   ·intro U k;rw[Mem.upd_other _ _ k]
 rw[if_neg E]at h⊢
 by_cases t:(i.mem.take a b).2.2=0
 case neg=>rw[if_neg t]at h;exact absurd h t
 rw[if_pos t]at h⊢
 have m:=l.mem.take a b
 have v:i.mem.take a b=({i.mem with count:=i.mem.count+1,free:=i.mem.free-1}.upd i.mem.first (Seg.new a b (i.mem.count+1)),(i.mem.first:Int),0)/\i.mem.free≠0:=by
  unfold Mem.take at t⊢
  rw[if_neg (by omega)]at t⊢
  by_cases o:i.mem.free=0
  ·rw[if_pos o]at t;exact absurd t (by show ¬((2:Int)=0);decide)
  ·rw[if_neg o];exact⟨rfl,o⟩
 obtain⟨v,r⟩:=v
 obtain⟨O,z⟩:=Mem.first_spec l.mem r
 rw[v]at h m⊢
 generalize d:({i.mem with count:=i.mem.count+1,free:=i.mem.free-1}:Mem).upd i.mem.first (Seg.new a b (i.mem.count+1))=p at*
 simp only at h m⊢
 have J:=l.mem.count
 have G:p.seg i.mem.first=Seg.new a b (i.mem.count+1):=by rw[<-d,Mem.upd_same]
 have n: ∀U,U≠i.mem.first->p.seg U=i.mem.seg U:=λU k=>by rw[<-d,Mem.upd_other _ _ k]
 have s:p.limit=i.mem.limit:=by rw[<-d];rfl
 have L:p.free=i.mem.free-1:=by rw[<-d];rfl
 have K:p.count=i.mem.count+1:=by rw[<-d];rfl
 obtain⟨A,N,o,y⟩:=Mem.bump_ok m h
 have H:((i.mem.first:Int)).toNat=i.mem.first:=by omega
 rw[H,G]at y o
 have F:(Seg.new a b (i.mem.count+1)).n=0:=rfl
 rw[F]at y o
 have f:=m.bump i.mem.first u
 rw[y]at f⊢
 have w:((i.mem.first:Int)*64+0) / 64=i.mem.first:=by omega
 have x:((i.mem.first:Int)*64+0) % 64=0:=by omega
 refine⟨⟨f,λU j=>?_⟩,?_⟩
 ·show(i.setCur a.toNat b.toNat ((i.mem.first:Int)+1)).cur U j=0\/_
  simp only[Sp.setCur]
  by_cases B:U=a.toNat/\j=b.toNat
  ·rw[if_pos B]
   refine .inr ⟨by omega,⟨by omega,by rw[Mem.upd_limit,s];omega,?_⟩,?_,?_⟩
   ·rw[show((i.mem.first:Int)+1-1).toNat=i.mem.first by omega,Mem.upd_same];show i.mem.count+1≠0;omega
   ·rw[show((i.mem.first:Int)+1-1).toNat=i.mem.first by omega,Mem.upd_same];show a=_;omega
   ·rw[show((i.mem.first:Int)+1-1).toNat=i.mem.first by omega,Mem.upd_same];show b=_;omega
  ·rw[if_neg B]
   rcases l.cur U j with q | ⟨I,g,C,D⟩
   ·exact .inl q
   ·have c:(i.cur U j-1).toNat≠i.mem.first:=λe=>g.2.2 (by rw[e];exact z)
    refine .inr ⟨I,⟨g.1,by rw[Mem.upd_limit,s];exact g.2.1,?_⟩,?_,?_⟩
    ·rw[Mem.upd_other _ _ c,n _ c];exact g.2.2
    ·rw[Mem.upd_other _ _ c,n _ c];exact C
    ·rw[Mem.upd_other _ _ c,n _ c];exact D
 ·refine⟨by show p.limit=_;exact s,⟨by show 0<=(i.mem.first:Int)*64+0;omega,by show((i.mem.first:Int)*64+0) / 64<_;rw[w];omega,by show((i.mem.first:Int)*64+0) % 64+u<=64;rw[x];omega⟩,?_,?_,?_,?_,by show _<=p.free;omega,by show p.count<=_;omega⟩<;>simp only[w,x,H]
  ·rw[Mem.upd_same];exact⟨by show i.mem.count+1≠0;omega,rfl,rfl,rfl⟩
  ·intro q;exact absurd z q
  ·intro _;trivial
  ·intro U k;rw[Mem.upd_other _ _ k,n _ k]
theorem Sp.alloc_can(f:SpOK i)(hm:may a b u)(k:1<=i.mem.free):(i.alloc a b u).2.2=0:=by
 unfold Sp.alloc
 rw[if_neg (λj=>j hm)]
 by_cases d:i.cur a.toNat b.toNat≠0/\(i.mem.bump (i.cur a.toNat b.toNat-1) u).2.2=0
 ·rw[if_pos d]
 rw[if_neg d]
 have l:=hm.1
 have hk:0<=b/\b<=3:=by have:=hm.2;omega
 have hn:1<=u/\u<=63:=by have:=hm.2;omega
 have e:=f.mem.count
 have c:i.mem.take a b=({i.mem with count:=i.mem.count+1,free:=i.mem.free-1}.upd i.mem.first (Seg.new a b (i.mem.count+1)),(i.mem.first:Int),0):=by
  unfold Mem.take
  rw[if_neg (by omega),if_neg (by omega)]
 obtain⟨h,g⟩:=Mem.first_spec f.mem (by omega:i.mem.free≠0)
 rw[c,if_pos rfl]
 refine Mem.bump_can ⟨by show(0:Int)<=(i.mem.first:Int);omega,by show(i.mem.first:Int)< (i.mem.limit:Int);omega,?_⟩ hn.1 ?_
 ·show((Mem.upd _ _ _).seg ((i.mem.first:Int)).toNat).taken≠0
  rw[show((i.mem.first:Int)).toNat=i.mem.first by omega,Mem.upd_same];show i.mem.count+1≠0;omega
 ·show((Mem.upd _ _ _).seg ((i.mem.first:Int)).toNat).n+u<=64
  rw[show((i.mem.first:Int)).toNat=i.mem.first by omega,Mem.upd_same];show 0+u<=64;omega
theorem Sp.alloc_fail(e:SpOK i)(h:(i.alloc a b u).2.2≠0):(i.alloc a b u).1=i:=by
 by_cases hm:may a b u
 case neg=>unfold Sp.alloc;rw[if_pos hm]
 by_cases f:i.mem.free=0
 ·have j:=hm.1
  have hk:0<=b/\b<=3:=by have:=hm.2;omega
  unfold Sp.alloc at*
  rw[if_neg (λg=>g hm)]at h⊢
  by_cases d:i.cur a.toNat b.toNat≠0/\(i.mem.bump (i.cur a.toNat b.toNat-1) u).2.2=0
  ·rw[if_pos d]at h;exact absurd rfl h
  rw[if_neg d]at h⊢
  have c:i.mem.take a b=(i.mem,0,2):=by unfold Mem.take;rw[if_neg (by omega),if_pos f]
  rw[c,if_neg (by decide: ¬((2:Int)=0))]
 ·have:0<=i.mem.free:=by rw[e.mem.free];omega
  exact absurd (Sp.alloc_can e hm (by omega)) h
def Mem.sets(m:Mem)(a:Int):List Int->Mem
 | []=>m
 | w::ws=>(if m.used a then m.set a w else m).sets (a+1) ws
theorem Mem.sets_snoc: ∀(b:List Int) (m:Mem) (a w:Int),m.sets a (b++[w])=if(m.sets a b).used (a+b.length)then(m.sets a b).set (a+b.length) w else m.sets a b
 | [],m,a,w=>by simp[Mem.sets]
 | u::b,m,a,w=>by
  simp only[List.cons_append,Mem.sets,List.length_cons]
  rw[Mem.sets_snoc b,show a+1+(b.length:Int)=a+((b.length+1:Nat):Int)by omega]
  rfl
theorem aV.sets: ∀(ws:List Int) {m:Mem} (b:aV m) (a:Int),(∀w∈ws,aC w)->aV (m.sets a ws)
 | [],m,b,a,_=>b
 | w::ws,m,b,a,h=>by
  simp only[Mem.sets]
  refine aV.sets ws ?_ _ (λu c=>h u (List.mem_cons_of_mem _ c))
  split
  ·exact b.set a (h w List.mem_cons_self)
  ·exact b
structure aS (m m':Mem):Prop where
 limit:m'.limit=m.limit
 seg: ∀j,(m'.seg j).gen=(m.seg j).gen/\(m'.seg j).kind=(m.seg j).kind/\(m'.seg j).n=(m.seg j).n/\(m'.seg j).taken=(m.seg j).taken/\(m'.seg j).cards=(m.seg j).cards
 free:m'.free=m.free
 count:m'.count=m.count
theorem aS.refl(m:Mem):aS m m:=⟨rfl,λ_=>⟨rfl,rfl,rfl,rfl,rfl⟩,rfl,rfl⟩
theorem aS.trans{a b c:Mem}(h:aS a b)(k:aS b c):aS a c:=
 ⟨k.limit.trans h.limit,λj=>⟨(k.seg j).1.trans (h.seg j).1,(k.seg j).2.1.trans (h.seg j).2.1,(k.seg j).2.2.1.trans (h.seg j).2.2.1,(k.seg j).2.2.2.1.trans (h.seg j).2.2.2.1,(k.seg j).2.2.2.2.trans (h.seg j).2.2.2.2⟩,k.free.trans h.free,k.count.trans h.count⟩
theorem aS.set(m:Mem)(a w:Int):aS m (m.set a w):=⟨rfl,λj=>by
 unfold Mem.set;rw[Mem.upd_seg]
 by_cases h:j=(a / 64).toNat
 ·rw[if_pos h,h];exact⟨rfl,rfl,rfl,rfl,rfl⟩
 ·rw[if_neg h];exact⟨rfl,rfl,rfl,rfl,rfl⟩,rfl,rfl⟩
theorem aS.sets: ∀(ws:List Int) (m:Mem) (a:Int),aS m (m.sets a ws)
 | [],m,a=>aS.refl m
 | w::ws,m,a=>by
  simp only[Mem.sets]
  refine aS.trans ?_ (aS.sets ws _ _)
  split
  ·exact aS.set m a w
  ·exact aS.refl m
theorem aS.has{a:Mem}(h:aS d a){k:Int}:a.has k ↔ d.has k:=by
 unfold Mem.has;rw[h.limit,(h.seg _).2.2.2.1]
theorem aS.used{m b:Mem}(h:aS m b){a:Int}:b.used a ↔ m.used a:=by
 unfold Mem.used;rw[h.has,(h.seg _).2.2.1]
theorem Mem.set_get{m:Mem}(x:Int)(g:0<=x)(f:0<=a):(m.set a b).get x=if x=a then b else m.get x:=by
 unfold Mem.get Mem.set
 rw[Mem.upd_seg]
 by_cases c:(x / 64).toNat=(a / 64).toNat
 ·rw[if_pos c]
  simp only[Seg.set]
  by_cases d:(x % 64).toNat=(a % 64).toNat
  ·rw[if_pos d,if_pos (by omega)]
  ·rw[if_neg d,if_neg (by intro e;subst e;exact d rfl),c]
 ·rw[if_neg c,if_neg (by intro e;subst e;exact c rfl)]
theorem Mem.sets_get: ∀(b:List Int) {m:Mem} {a:Int} (x:Int),0<=x->0<=a->(∀i:Nat,i<b.length->m.used (a+i))->(m.sets a b).get x=if a<=x/\x<a+b.length then b.getD (x-a).toNat 0 else m.get x
 | [],m,a,x,hx,ha,hu=>by simp only[Mem.sets];rw[if_neg (by simp only[List.length_nil];omega)]
 | w::b,m,a,x,hx,ha,hu=>by
  have e:m.used a:=by have:=hu 0 (by simp);simpa using this
  simp only[Mem.sets]
  rw[if_pos e,Mem.sets_get b x hx (by omega) (λi f=>(aS.set m a w).used.2 (by have:=hu (i+1) (by simp;omega);rw[show a+1+(i:Int)=a+((i+1:Nat):Int)by omega];exact this))]
  rw[Mem.set_get x hx ha]
  by_cases c:x=a
  ·subst c
   rw[if_neg (by omega),if_pos rfl,if_pos ⟨by omega,by simp;omega⟩]
   simp
  ·by_cases d:a+1<=x/\x<a+1+b.length
   ·rw[if_pos d,if_pos ⟨by omega,by simp;omega⟩]
    have:(x-a).toNat=(x-(a+1)).toNat+1:=by omega
    rw[this];simp
   ·rw[if_neg d,if_neg c,if_neg (by simp;omega)]
def gO(tag addr:Int):Int×Int:=if ¬(tag=1\/tag=2\/tag=3\/tag=6)then(0,1)else if 0<=addr/\addr<65536 then(addr*8+tag,0)else(0,18)
def Sp.put(s:Sp)(kind tag:Int)(ws:List Int):Sp×Int×Int:=
 if(s.alloc 0 kind ws.length).2.2=0 then({(s.alloc 0 kind ws.length).1 with mem:=(s.alloc 0 kind ws.length).1.mem.sets (s.alloc 0 kind ws.length).2.1 ws},gO tag (s.alloc 0 kind ws.length).2.1)
 else(s,0,(s.alloc 0 kind ws.length).2.2)
def putO(o:Option (Blk×Hp))(kind tag:Int)(ws:List Int):Option (Blk×Hp):=
 match o with
 | none=>none
 | some (b,x)=>some (b,{x with sp:=(x.sp.put kind tag ws).1})
def putR(o:Option (Blk×Hp))(kind tag:Int)(ws:List Int):Int×Int:=
 match o with
 | none=>(0,2)
 | some (_,x)=>(x.sp.put kind tag ws).2
def oI(o:Option (Blk×Hp)):Prop:=(mof o).count<4611686018427387904
theorem SpOK.sets(b:SpOK i)(a:Int){ws:List Int}(c: ∀w∈ws,aC w):SpOK {i with mem:=i.mem.sets a ws}:=
 b.withMem (aV.sets ws b.mem a c) (λk h=>(aS.sets ws i.mem a).has.2 h) (λk=>⟨((aS.sets ws i.mem a).seg k).1,((aS.sets ws i.mem a).seg k).2.1⟩)
theorem jR{s:zW}{ws:List Int}(V:View H j k)(c:eK H s (wvs ws))(B:g=ws.length)(Z: ∀w∈ws,aC w)
  (hd: ∀i,i∈blks s->i ∉ own k) (hc:oI k) (ht:I64 b) (hl:ws.length<=1000):
  dy.C j a b s g v H (λaj t=>aj=.tuple #[vu (putR k a b ws).1,vi (putR k a b ws).2]/\View t j (putO k a b ws)/\Fr (own k) H t):=by
 subst B
 refine HC.via λR q=>dy.link ?_
 unfold dy.pt zY
 refine HC.mono (jl V) ?_
 rintro _ S ⟨rfl,rfl⟩
 refine⟨_,rfl,?_⟩
 cases V with
 | nobody=>rw[if_pos (show(none:Option (Blk×Hp)).isNone=true from rfl)];exact q _ _ ⟨rfl,.nobody,Fr.refl _ _⟩
 | empty h=>rw[if_pos (show(none:Option (Blk×Hp)).isNone=true from rfl)];exact q _ _ ⟨rfl,.empty h,Fr.refl _ _⟩
 | @real ah x h E=>
  rw[if_neg (show ¬(some (ah,x)).isNone=true from Bool.false_ne_true)]
  refine⟨_,rfl,_,h.hPtr,_,rfl,_,h.cd.cPtr,?_⟩
  refine HC.mono (iu h.cd.sp E hc) ?_
  rintro _ H2 ⟨rfl,N,W⟩
  refine⟨_,_,rfl,?_⟩
  have d:=h.withSp W (λi z=>by simp at z;omega) N
  have y:Fr (own (some (ah,x))) S H2:=W.mono (λi z _=>by simp at z;simp[own];omega)
  by_cases r:(x.sp.alloc 0 a ws.length).2.2=0
  case neg=>
   rw[if_neg r]
   have e:x.sp.put a b ws=(x.sp,0,(x.sp.alloc 0 a ws.length).2.2):=by unfold Sp.put;rw[if_neg r]
   have G:putR (some (ah,x)) a b ws=(0,(x.sp.alloc 0 a ws.length).2.2):=by show(x.sp.put a b ws).2=_;rw[e]
   have I:putO (some (ah,x)) a b ws=some (ah,x):=by show some (ah,{x with sp:=(x.sp.put a b ws).1})=_;rw[e]
   rw[G,I]at q
   rw[Sp.alloc_fail E r]at d
   exact q _ _ ⟨rfl,.real d E,y⟩
  rw[if_pos r]
  obtain⟨F,gr⟩:=Sp.alloc_ok E r
  have e:x.sp.put a b ws=({(x.sp.alloc 0 a ws.length).1 with mem:=(x.sp.alloc 0 a ws.length).1.mem.sets (x.sp.alloc 0 a ws.length).2.1 ws},gO b (x.sp.alloc 0 a ws.length).2.1):=by unfold Sp.put;rw[if_pos r]
  have G:putR (some (ah,x)) a b ws=gO b (x.sp.alloc 0 a ws.length).2.1:=by show(x.sp.put a b ws).2=_;rw[e]
  have I:putO (some (ah,x)) a b ws=some (ah,{x with sp:={(x.sp.alloc 0 a ws.length).1 with mem:=(x.sp.alloc 0 a ws.length).1.mem.sets (x.sp.alloc 0 a ws.length).2.1 ws}}):=by show some (ah,{x with sp:=(x.sp.put a b ws).1})=_;rw[e]
  rw[G,I]at q
  generalize a9:(x.sp.alloc 0 a ws.length).1=Q at*
  generalize a6:(x.sp.alloc 0 a ws.length).2.1=ag at*
  have Y:=E.mem.lim
  have a0:=gr.addr
  refine⟨λi t=>(0<=i/\i<=ws.length)/\HpAt t ah {x with sp:={Q with mem:=Q.mem.sets ag (ws.take i.toNat)}}/\Fr (own (some (ah,x))) S t,λi _=>(ws.length-i).toNat,⟨by omega,by simpa[Mem.sets]using d,y⟩,?_⟩
  rintro i T ⟨z,f,J⟩
  by_cases m:i< (ws.length:Int)
  ·rw[if_pos m]
   have A:i.toNat<ws.length:=by omega
   have o:eK T s (wvs ws):=by
    cases s with
    | none=>exact c
    | some P=>exact J.rowAt (hd _ (by simp)) c
   cases s with
   | none=>
    exfalso
    have e:wvs ws=[]:=c
    have:ws.length=0:=by simpa[wvs]using congrArg List.length e
    omega
   | some P=>
    refine⟨P,rfl,⟨z.1,m⟩,ws[i.toNat],?_,?_⟩
    ·have:=fJ (show aU T P 0 (wvs ws)from o) i.toNat (vu (ws[i.toNat])) (by simp[wvs,A])
     rw[Nat.mul_one];rw[Nat.zero_add]at this;exact this
    refine⟨_,f.hPtr,_,rfl,_,f.cd.cPtr,_,rfl,_,f.cd.sp.memPtr,?_⟩
    have D:aV (Q.mem.sets ag (ws.take i.toNat)):=aV.sets _ F.mem ag (λw O=>Z w (List.mem_of_mem_take O))
    rw[w64 (n:=ag+i) (by omega),w64 (n:=i+1) (by omega)]
    refine HC.mono (eQ f.cd.sp.mem D (by omega)) ?_
    rintro _ H4 ⟨rfl,M,X⟩
    refine⟨_,rfl,⟨by omega,?_,J.trans (X.mono (λai L _=>by simp at L;simp[own];omega))⟩,by show((ws.length:Int)-(i+1)).toNat< ((ws.length:Int)-i).toNat;omega⟩
    have h4:=f.withMem X (λai L=>by simp at L;omega) M
    have et:ws.take (i+1).toNat=ws.take i.toNat++[ws[i.toNat]]:=by
     rw[show(i+1).toNat=i.toNat+1 by omega,List.take_succ_eq_append_getElem A]
    have el:((ws.take i.toNat).length:Int)=i:=by rw[List.length_take];omega
    rw[et,Mem.sets_snoc,el]
    exact h4
  ·rw[if_neg m]
   have K:i.toNat=ws.length:=by omega
   rw[K,List.take_length]at f
   refine HC.mono (ix ht (by omega)) ?_
   rintro _ H5 ⟨rfl,U⟩
   have ev:(if ¬(b=1\/b=2\/b=3\/b=6)then Value.tuple #[vu 0,vi 1]else if 0<=ag/\ag<65536 then .tuple #[vu (ag*8+b),vi 0]else .tuple #[vu 0,vi 18])=.tuple #[vu (gO b ag).1,vi (gO b ag).2]:=by
    by_cases p:b=1\/b=2\/b=3\/b=6
    ·by_cases d:0<=ag/\ag<65536
     ·have u:gO b ag=(ag*8+b,0):=by unfold gO;rw[if_neg (λl=>l p),if_pos d]
      rw[u,if_neg (λl=>l p),if_pos d]
     ·have u:gO b ag=(0,18):=by unfold gO;rw[if_neg (λl=>l p),if_neg d]
      rw[u,if_neg (λl=>l p),if_neg d]
    ·have u:gO b ag=(0,1):=by unfold gO;rw[if_pos p]
     rw[u,if_pos p]
   rw[ev]
   exact⟨_,_,rfl,q _ _ ⟨rfl,.real (f.ext U) (F.sets ag Z),J.trans U.fr⟩⟩
def Sp.make(s:Sp)(kind more:Int)(ws:List Int):Sp×Int×Int:=
 if ¬((1<=kind/\kind<=13)/\more<281474976710656)then(s,0,1)
 else if 62<ws.length then(s,0,6)
 else s.put (rawK kind) 3 ((more*65536+ws.length*256+kind*8+5)::ws)
def iM(o:Option (Blk×Hp))(kind more:Int)(ws:List Int):Option (Blk×Hp):=
 if ¬((1<=kind/\kind<=13)/\more<281474976710656)then o
 else if 62<ws.length then o
 else putO o (rawK kind) 3 ((more*65536+ws.length*256+kind*8+5)::ws)
def iy(o:Option (Blk×Hp))(kind more:Int)(ws:List Int):Int×Int:=
 if ¬((1<=kind/\kind<=13)/\more<281474976710656)then(0,1)
 else if 62<ws.length then(0,6)
 else putR o (rawK kind) 3 ((more*65536+ws.length*256+kind*8+5)::ws)
theorem View.own_lt(V:View H j k): ∀i,i∈own k->i<H.size:=by
 cases V with
 | nobody=>intro i a;simp[own]at a
 | empty h=>intro i a;simp[own]at a
 | real h b=>intro i a;exact h.lt i (by simp[own]at a;simp[Blk.all];omega)
theorem kS{y:zW}{kind more:Int}{ws:List Int}(V:View H j k)(b:eK H y (wvs ws))(u:g=ws.length)(S: ∀w∈ws,aC w)
  (hk:I64 kind) (n:aC more) (P:oI k) (hl:ws.length<=1000000):
  cY.C j kind more y g v H (λa9 F=>a9=.tuple #[vu (iy k kind more ws).1,vi (iy k kind more ws).2]/\View F j (iM k kind more ws)/\Fr (own k) H F):=by
 subst u
 refine HC.via λR q=>cY.link ?_
 unfold cY.pt
 refine HC.mono (jd hk (by decide) n) ?_
 rintro _ U ⟨rfl,r⟩
 rw[mU]
 refine⟨_,_,rfl,?_⟩
 by_cases a:(1<=kind/\kind<=13)/\more<281474976710656
 case neg=>
  have l: ¬((1<=kind/\kind<=13)/\((0:Int)<=0/\(0:Int)<=62)/\more<281474976710656):=λh=>a ⟨h.1,h.2.2⟩
  rw[if_neg l,if_neg (by decide)]
  have e:iy k kind more ws=(0,1):=by unfold iy;rw[if_pos a]
  have f:iM k kind more ws=k:=by unfold iM;rw[if_pos a]
  rw[e,f]at q
  exact q _ _ ⟨rfl,V.ext r,r.fr⟩
 have l:(1<=kind/\kind<=13)/\((0:Int)<=0/\(0:Int)<=62)/\more<281474976710656:=⟨a.1,by decide,a.2⟩
 rw[if_pos l,if_pos rfl]
 by_cases x:62<ws.length
 ·rw[if_pos (by omega)]
  have e:iy k kind more ws=(0,6):=by unfold iy;rw[if_neg (λm=>m a),if_pos x]
  have f:iM k kind more ws=k:=by unfold iM;rw[if_neg (λm=>m a),if_pos x]
  rw[e,f]at q
  exact q _ _ ⟨rfl,V.ext r,r.fr⟩
 rw[if_neg (by omega)]
 refine HC.mono (jd hk (by omega) n) ?_
 rintro _ W ⟨rfl,f⟩
 rw[mU]
 refine⟨_,_,rfl,?_⟩
 have z:(1<=kind/\kind<=13)/\((0:Int)<=(ws.length:Int)/\(ws.length:Int)<=62)/\more<281474976710656:=⟨a.1,by omega,a.2⟩
 rw[if_pos z]
 refine HC.mono lW ?_
 rintro _ X ⟨rfl,rfl⟩
 refine⟨_,rfl,?_⟩
 intro Z I A t
 have c:=r.trans f
 have d:=c.trans (Ext.push' t)
 have O:=aL A t
 have Q:=n.1
 have o:eK I y (wvs ws):=by
  cases y with
  | none=>exact b
  | some la=>exact d.rowAt b
 refine eV (ys:=wvs ws) (xs:=[vu (more*65536+ws.length*256+kind*8+5)]) ⟨rfl,_,O,rfl,Nat.le_refl _,rfl,λa8 hj=>?_⟩ o (by simp[wvs]) (jm ws) rfl (by omega) ?_
 ·have:a8=0:=by omega
  subst this;rfl
 intro p5 c5 J T M B
 have s:Ext H J:=d.fr_trans M (λi D=>by simp at D;have:=c.size;omega)
 have K:=V.ext s
 refine HC.mono (jR (ws:=(more*65536+ws.length*256+kind*8+5)::ws) K T.src (by simp;omega) (λw p=>?_) (λi D E=>?_) P (by decide) (by simp;omega)) ?_
 ·rcases List.mem_cons.1 p with rfl | p
  ·exact⟨by omega,by omega⟩
  ·exact S w p
 ·have h6:=V.own_lt i E
  have h7:=d.size
  have h8:=c.size
  rcases B i D with G | G
  ·simp at G;omega
  ·omega
 rintro _ Y ⟨rfl,L,N⟩
 refine⟨_,_,rfl,?_⟩
 have e:iy k kind more ws=putR k (rawK kind) 3 ((more*65536+ws.length*256+kind*8+5)::ws):=by unfold iy;rw[if_neg (λm=>m a),if_neg x]
 have f:iM k kind more ws=putO k (rawK kind) 3 ((more*65536+ws.length*256+kind*8+5)::ws):=by unfold iM;rw[if_neg (λm=>m a),if_neg x]
 rw[e,f]at q
 exact q _ _ ⟨rfl,L,s.fr.trans N⟩
def Sp.cf(s:Sp):Int:=s.mem.count+s.mem.free
theorem Sp.cf_count(a:SpOK i)(h:i.cf<4611686018427387904):i.mem.count<4611686018427387904:=by
 have:=a.mem.free;unfold Sp.cf at h;omega
theorem Mem.take_cf(m:Mem)(g k:Int):(m.take g k).1.count+(m.take g k).1.free=m.count+m.free:=by
 unfold Mem.take
 split
 ·rfl
 split
 ·rfl
 ·show m.count+1+(m.free-1)=_;omega
theorem Sp.alloc_cf(s:Sp)(g k n:Int):(s.alloc g k n).1.cf=s.cf:=by
 unfold Sp.alloc Sp.cf
 split
 ·rfl
 split
 ·show(s.mem.bump _ _).1.count+(s.mem.bump _ _).1.free=_
  rw[(Mem.bump_lim _ _ _).2.1,(Mem.bump_lim _ _ _).2.2]
 split
 ·show((s.mem.take g k).1.bump _ _).1.count+((s.mem.take g k).1.bump _ _).1.free=_
  rw[(Mem.bump_lim _ _ _).2.1,(Mem.bump_lim _ _ _).2.2]
  exact Mem.take_cf _ _ _
 ·rfl
structure Keep (m m':Mem):Prop where
 limit:m'.limit=m.limit
 used: ∀a,m.used a->m'.used a/\m'.get a=m.get a/\(m'.seg (a / 64).toNat).kind=(m.seg (a / 64).toNat).kind/\(m'.seg (a / 64).toNat).gen=(m.seg (a / 64).toNat).gen/\(m.seg (a / 64).toNat).n<=(m'.seg (a / 64).toNat).n
theorem Keep.refl(m:Mem):Keep m m:=⟨rfl,λa h=>⟨h,rfl,rfl,rfl,Int.le_refl _⟩⟩
theorem Keep.trans{a b c:Mem}(h:Keep a b)(k:Keep b c):Keep a c:=
 ⟨k.limit.trans h.limit,λx j=>by
  obtain⟨d,e,f,g,i⟩:=h.used x j
  obtain⟨l,m,n,o,p⟩:=k.used x d
  exact⟨l,m.trans e,n.trans f,o.trans g,Int.le_trans i p⟩⟩
structure fi (m:Mem) (w kind more:Int) (ws:List Int):Prop where
 word:aC w
 obj:m.isObj w
 kindEq:hk (m.get (w / 8))=kind
 lenEq:hn (m.get (w / 8))=ws.length
 moreEq:hm (m.get (w / 8))=more
 get: ∀(i:Nat) (h:i<ws.length),m.get (w / 8+1+i)=ws[i]
theorem fi.typ(h:fi d a b u B):d.typ a=b:=by unfold Mem.typ;rw[if_pos h.obj];exact h.kindEq
theorem fi.len(h:fi d a b u B):d.len a=B.length:=by unfold Mem.len;rw[if_pos h.obj];exact h.lenEq
theorem fi.usedHead(h:fi d a b u B):d.used (a / 8):=h.obj.1.used h.word
theorem fi.usedAt(h:fi d a b u B)(hn: ∀k,(d.seg k).n<=64){i:Nat}(c:i<B.length):d.used (a / 8+1+i):=
 h.obj.used h.word (hn _) ⟨by omega,by rw[h.len];omega⟩
theorem fi.keep{g:Mem}(h:fi d a b u B)(hn: ∀k,(d.seg k).n<=64)(k:Keep d g):fi g a b u B:=by
 obtain⟨j,c,l,_,m⟩:=k.used _ h.usedHead
 have e:=h.obj
 refine⟨h.word,⟨⟨e.1.1,e.1.2.1,j.2.1,?_,j.2.2⟩,by rw[c];exact e.2.1,?_⟩,by rw[c];exact h.kindEq,by rw[c];exact h.lenEq,by rw[c];exact h.moreEq,λi f=>?_⟩
 ·rw[l,c];exact e.1.2.2.2.1
 ·rw[c];have:=e.2.2;omega
 ·rw[(k.used _ (h.usedAt hn f)).2.1];exact h.get i f
theorem Grown.lay{m h:Mem}{a g k:Int}(c:Grown m h a B.length g k)(G:aV m):Keep m (h.sets a B)/\(∀x,0<=x->(h.sets a B).get x=if a<=x/\x<a+B.length then B.getD (x-a).toNat 0 else h.get x)/\(∀i:Nat,i<B.length->(h.sets a B).used (a+i)):=by
 have l:=aS.sets B h a
 obtain⟨u,v,E⟩:=c.addr
 have s: ∀i:Nat,i<B.length->h.used (a+i):=λi q=>by
  have p:(a+i) / 64=a / 64:=by omega
  have w:(a+i) % 64=a % 64+i:=by omega
  refine⟨by omega,?_,?_⟩
  ·rw[p];exact⟨by omega,by rw[c.limit];exact v,c.new.1⟩
  ·rw[p,w,c.new.2.2.2];omega
 have d:=λx (e:0<=x)=>Mem.sets_get B (m:=h) (a:=a) x e u s
 refine⟨⟨l.limit.trans c.limit,λx e=>?_⟩,d,λi q=>l.used.2 (s i q)⟩
 have n:=e.1
 have b:=l.seg (x / 64).toNat
 by_cases f:(x / 64).toNat=(a / 64).toNat
 ·have r:(m.seg (a / 64).toNat).taken≠0:=by rw[<-f];exact e.2.1.2.2
  obtain⟨z,A,t,C,F,D⟩:=c.old r
  have o:=e.2.2
  rw[f,t]at o
  have y:x<a:=by omega
  refine⟨l.used.2 ⟨n,⟨e.2.1.1,by rw[c.limit];exact e.2.1.2.1,by rw[f,D];exact r⟩,by rw[f,c.new.2.2.2];omega⟩,?_,?_,?_,?_⟩
  ·rw[d x n,if_neg (by omega)];unfold Mem.get;rw[f,C]
  ·rw[b.2.1,f,c.new.2.2.1,A]
  ·rw[b.1,f,c.new.2.1,z]
  ·rw[b.2.2.1,f,c.new.2.2.2,t];omega
 ·have j:=c.others _ f
  refine⟨l.used.2 ⟨n,⟨e.2.1.1,by rw[c.limit];exact e.2.1.2.1,by rw[j];exact e.2.1.2.2⟩,by rw[j];exact e.2.2⟩,?_,?_,?_,?_⟩
  ·rw[d x n,if_neg (by omega)];unfold Mem.get;rw[j]
  ·rw[b.2.1,j]
  ·rw[b.1,j]
  ·rw[b.2.2.1,j];omega
theorem Sp.put_ok(f:SpOK i){b tag:Int}(hm:may 0 b B.length)(h:tag=1\/tag=2\/tag=3\/tag=6)(j: ∀w∈B,aC w)(c:(i.alloc 0 b B.length).2.2=0):
  ∃a:Int,(i.put b tag B).2=(a*8+tag,0)/\Grown i.mem (i.alloc 0 b B.length).1.mem a B.length 0 b/\(i.put b tag B).1.mem=(i.alloc 0 b B.length).1.mem.sets a B/\SpOK (i.put b tag B).1/\a<65536/\(i.put b tag B).1.cur=(i.alloc 0 b B.length).1.cur:=by
 obtain⟨d,e⟩:=Sp.alloc_ok f c
 have n:=f.mem.lim
 obtain⟨k,l,m⟩:=e.addr
 refine⟨(i.alloc 0 b B.length).2.1,?_,e,?_,?_,by omega,?_⟩
 ·unfold Sp.put;rw[if_pos c];unfold gO;rw[if_neg (λg=>g h),if_pos (by omega)]
 ·unfold Sp.put;rw[if_pos c]
 ·unfold Sp.put;rw[if_pos c];exact d.sets _ j
 ·unfold Sp.put;rw[if_pos c]
structure Made (m m':Mem) (w:Int) (n:Nat):Prop where
 keep:Keep m m'
 free:m.free-1<=m'.free
 count:m'.count<=m.count+1
 fresh: ∀i:Nat,i<=n-> ¬m.used (w / 8+i)
theorem nP(d:1<=a/\a<=13)(e:0<=b/\b<281474976710656)(c:g<=62):
  fu (b*65536+g*256+a*8+5)/\hk (b*65536+g*256+a*8+5)=a/\hn (b*65536+g*256+a*8+5)=g/\hm (b*65536+g*256+a*8+5)=b:=by
 unfold fu hk hn hm
 refine⟨⟨by omega,by omega⟩,by omega,by omega,by omega⟩
theorem Sp.make_ok0(D:SpOK i)(o:1<=a/\a<=13)(q:0<=b/\b<281474976710656)(K:B.length<=62)(L: ∀w∈B,aC w)(h:(i.alloc 0 (rawK a) ((B.length+1:Nat):Int)).2.2=0):
  (i.make a b B).2.2=0/\fi (i.make a b B).1.mem (i.make a b B).2.1 a b B/\SpOK (i.make a b B).1/\Made i.mem (i.make a b B).1.mem (i.make a b B).2.1 B.length:=by
 have r:rawK a=2\/rawK a=3:=by unfold rawK;split<;>omega
 generalize n:b*65536+B.length*256+a*8+5=d
 have c:=nP o q K
 rw[n]at c
 have x:aC d:=⟨by omega,by omega⟩
 have H:i.make a b B=i.put (rawK a) 3 (d::B):=by
  unfold Sp.make;rw[if_neg (by intro J;exact J ⟨o,q.2⟩),if_neg (by omega),n]
 rw[H]
 have m: ∀w∈d::B,aC w:=λw l=>by
  rcases List.mem_cons.1 l with rfl | l
  ·exact x
  ·exact L w l
 have p:may 0 (rawK a) ((d::B).length:Nat):=⟨by omega,.inr ⟨r,by simp;omega,by simp;omega⟩⟩
 have h:(i.alloc 0 (rawK a) ((d::B).length:Nat)).2.2=0:=h
 obtain⟨P,s,g,v,y,G,_⟩:=Sp.put_ok (tag:=3) D p (by omega) m h
 obtain⟨M,f,k⟩:=g.lay D.mem
 rw[s,v]
 obtain⟨E,N,F⟩:=g.addr
 have u:=aS.sets (d::B) (i.alloc 0 (rawK a) ((d::B).length:Nat)).1.mem P
 simp only[List.length_cons]at F
 have e:(P*8+3) / 8=P:=by omega
 have t:((i.alloc 0 (rawK a) ((d::B).length:Nat)).1.mem.sets P (d::B)).get P=d:=by
  rw[f P E,if_pos ⟨by omega,by simp;omega⟩];simp
 have j:=k 0 (by simp)
 rw[show P+((0:Nat):Int)=P by omega]at j
 refine⟨rfl,⟨⟨by omega,by omega⟩,?_,?_,?_,?_,λQ A=>?_⟩,y,⟨M,?_,?_,?_⟩⟩
 ·unfold Mem.isObj
  rw[e,t,c.2.1,c.2.2.1]
  refine⟨⟨⟨by omega,by omega⟩,by omega,?_,?_,?_⟩,c.1,?_⟩
  ·rw[e];exact j.2.1
  ·rw[e,(u.seg _).2.1,g.new.2.2.1]
  ·rw[e];exact j.2.2
  ·rw[(u.seg _).2.2.1,g.new.2.2.2];simp;omega
 ·rw[e,t];exact c.2.1
 ·rw[e,t];exact c.2.2.1
 ·rw[e,t];exact c.2.2.2
 ·rw[e,f _ (by omega),if_pos ⟨by omega,by simp;omega⟩]
  rw[show(P+1+(Q:Int)-P).toNat=Q+1 by omega]
  simp[A]
 ·rw[u.free];exact g.free
 ·rw[u.count];exact g.count
 ·rw[e]
  intro Q A C
  have s:(P+Q) / 64=P / 64:=by omega
  have v:(P+Q) % 64=P % 64+Q:=by omega
  by_cases z:(i.mem.seg (P / 64).toNat).taken=0
  ·have:=C.2.1.2.2
   rw[s]at this
   exact this z
  ·have O:=(g.old z).2.2.1
   have I:=C.2.2
   rw[s,v]at I
   omega
theorem Sp.make_ok(e:SpOK i)(c:1<=a/\a<=13)(d:0<=b/\b<281474976710656)(g:B.length<=62)(h: ∀w∈B,aC w)(f:1<=i.mem.free):
  (i.make a b B).2.2=0/\fi (i.make a b B).1.mem (i.make a b B).2.1 a b B/\SpOK (i.make a b B).1/\Made i.mem (i.make a b B).1.mem (i.make a b B).2.1 B.length:=
 Sp.make_ok0 e c d g h (Sp.alloc_can e ⟨by omega,.inr ⟨by unfold rawK;split<;>omega,by omega,by omega⟩⟩ f)
theorem Mem.store_get{m:Mem}(c:m.used a)(x:Int)(d:0<=x):(m.store a b).1.get x=if x=a then b else m.get x:=by
 have e:m.store a b=(m.set a b).mark (a / 64) (a % 64 / 16) ((m.set a b).younger ((m.set a b).seg (a / 64).toNat) b (((m.set a b).seg (a / 64).toNat).cards (a % 64 / 16).toNat)):=by unfold Mem.store;rw[if_pos c]
 rw[e,<-Mem.set_get (m:=m) x d c.1]
 unfold Mem.get
 rw[(Mem.mark_seg _).2.2.2]
theorem Mem.mark_lim:(d.mark a b u).1.limit=d.limit/\(d.mark a b u).1.free=d.free/\(d.mark a b u).1.count=d.count:=by
 unfold Mem.mark
 split
 ·exact⟨rfl,rfl,rfl⟩
 split
 ·exact⟨rfl,rfl,rfl⟩
 ·exact⟨rfl,rfl,rfl⟩
theorem Mem.store_lim{m:Mem}:(m.store a b).1.limit=m.limit/\(m.store a b).1.free=m.free/\(m.store a b).1.count=m.count:=by
 unfold Mem.store
 split
 ·exact Mem.mark_lim
 ·exact⟨rfl,rfl,rfl⟩
theorem Mem.store_used{m:Mem}{a w x:Int}:(m.store a w).1.used x ↔ m.used x:=by
 unfold Mem.used
 rw[Mem.store_has,(Mem.store_seg _).2.2]
theorem Mem.mark_ok(h:aV d)(c:d.has a)(f:0<=b/\b<4)(g:0<=u/\u<=5):(d.mark a b u).2=0:=by
 unfold Mem.mark
 rw[if_neg (λe=>e c),if_neg (by omega)]
theorem aV.genOf(a:aV d)(w:Int):0<=(d.genOf w).1:=by
 unfold Mem.genOf
 split
 ·simp only
  split
  ·exact(a.seg _).gen.1
  ·exact Int.le_refl _
 ·exact Int.le_refl _
theorem Mem.store_0(i:aV d)(f:d.used a)(h:aC b):(d.store a b).2=0:=by
 have e:d.store a b=(d.set a b).mark (a / 64) (a % 64 / 16) ((d.set a b).younger ((d.set a b).seg (a / 64).toNat) b (((d.set a b).seg (a / 64).toNat).cards (a % 64 / 16).toNat)):=by unfold Mem.store;rw[if_pos f]
 have c:=i.set a h
 rw[e]
 refine Mem.mark_ok c (Mem.set_has.2 f.2.1) (by omega) ?_
 have g:=(c.seg (a / 64).toNat).cards (a % 64 / 16).toNat
 have j:=c.genOf b
 unfold Mem.younger
 split
 ·omega
 ·exact g
def Sep(w:Int)(n:Nat)(w':Int)(n':Nat):Prop:= ∀i j:Nat,i<=n->j<=n'->w / 8+i≠w' / 8+j
theorem Sep.symm{n c:Nat}(h:Sep a n b c):Sep b c a n:=λi j d f e=>h j i f d e.symm
theorem fi.set{m:Mem}{w a b v:Int}{ws:List Int}(h:fi m w a b ws)(p:aV m)(o:g<ws.length):fi (m.store (w / 8+1+g) v).1 w a b (ws.set g v):=by
 have f: ∀k,(m.seg k).n<=64:=λk=>(p.seg k).n.2
 have l:=h.usedAt f o
 have q:0<=w / 8:=by have:=h.word.1;omega
 have c:=h.obj
 have d:(m.store (w / 8+1+g) v).1.get (w / 8)=m.get (w / 8):=by rw[Mem.store_get l _ q,if_neg (by omega)]
 refine⟨h.word,⟨⟨c.1.1,c.1.2.1,Mem.store_has.2 c.1.2.2.1,?_,?_⟩,by rw[d];exact c.2.1,?_⟩,by rw[d];exact h.kindEq,by rw[d,List.length_set];exact h.lenEq,by rw[d];exact h.moreEq,λj i=>?_⟩
 ·rw[d,(Mem.store_seg _).2.1];exact c.1.2.2.2.1
 ·rw[(Mem.store_seg _).2.2];exact c.1.2.2.2.2
 ·rw[d,(Mem.store_seg _).2.2];exact c.2.2
 ·rw[List.length_set]at i
  rw[Mem.store_get l _ (by omega),List.getElem_set]
  by_cases e:g=j
  ·subst e;rw[if_pos rfl,if_pos rfl]
  ·rw[if_neg (by omega),if_neg e];exact h.get j i
def Mem.isPair(m:Mem)(w:Int):Prop:=(m.atW w 1 0\/m.atW w 2 1)/\w / 8 % 2=0
instance (m:Mem) (w:Int):Decidable (m.isPair w):=by unfold Mem.isPair;infer_instance
theorem jo(V:View H j k)(g:aC a):
  db.C j a H (λv l=> ∃r:Int,v=.tuple #[vi r,.bool (decide ((mof k).isPair a))]/\((mof k).isPair a->r=a / 8)/\Ext H l):=by
 refine HC.via λR i=>db.link ?_
 unfold db.pt
 have e:0<=a / 8:=by have:=g.1;omega
 refine HC.mono (kR V g) ?_
 rintro _ o ⟨r,rfl,n,f⟩
 refine⟨_,_,rfl,?_⟩
 by_cases b:(mof k).atW a 1 0
 ·rw[if_pos (zX b),n b,hM e]
  refine i _ _ ⟨_,?_,λ_=>rfl,f⟩
  refine tupb ?_
  rw[Bool.eq_iff_iff,beq_iff_eq,decide_eq_true_eq]
  exact⟨λh=>⟨.inl b,h⟩,λh=>h.2⟩
 rw[if_neg (by simpa using b)]
 refine HC.mono (kR (V.ext f) g) ?_
 rintro _ p ⟨q,rfl,d,m⟩
 refine⟨_,_,rfl,i _ _ ⟨_,?_,λh=>d (h.1.resolve_left b),f.trans m⟩⟩
 refine tupb ?_
 by_cases c:(mof k).atW a 2 1
 ·rw[d c,hM e,zX c,Bool.true_and,Bool.eq_iff_iff,beq_iff_eq,decide_eq_true_eq]
  exact⟨λh=>⟨.inr c,h⟩,λh=>h.2⟩
 ·rw[zQ c,Bool.false_and,zQ]
  exact λh=>h.1.elim b c
theorem nQ(V:View H j k)(e:aC a):
  dP.C j a H (λv b=>v=.bool (decide ((mof k).isPair a))/\Ext H b):=by
 refine HC.via λR d=>dP.link ?_
 unfold dP.pt
 refine HC.mono (jo V e) ?_
 rintro _ f ⟨h,rfl,g,c⟩
 exact⟨_,_,rfl,d _ _ ⟨rfl,c⟩⟩
def Mem.halfE(m:Mem)(w i:Int):Int:=if m.isPair w then(if m.used (w / 8+i)then 0 else 18)else 3
theorem Mem.isPair.addr(h:d.isPair a)(b:aC a):0<=a / 8/\a / 8<65536:=by
 have:=b.1
 refine⟨by omega,?_⟩
 rcases h.1 with h | h
 ·exact h.1.2
 ·exact h.1.2
theorem kU(V:View H j k)(l:aC a)(t:0<=b/\b<=1):
  dw.C j a b H (λv m=>v=.tuple #[vu (if(mof k).halfE a b=0 then(mof k).get (a / 8+b)else 0),vi ((mof k).halfE a b)]/\Ext H m):=by
 refine HC.via λR c=>dw.link ?_
 unfold dw.pt zY
 refine HC.mono (jo V l) ?_
 rintro _ q ⟨u,rfl,o,f⟩
 refine⟨_,_,rfl,?_⟩
 by_cases d:(mof k).isPair a
 case neg=>
  rw[if_neg (by simpa using d)]
  have e:(mof k).halfE a b=3:=by unfold Mem.halfE;rw[if_neg d]
  rw[e]at c
  exact c _ _ ⟨rfl,f⟩
 rw[if_pos (zX d),o d]
 have s:=d.addr l
 have e:(mof k).halfE a b=if(mof k).used (a / 8+b)then 0 else 18:=by unfold Mem.halfE;rw[if_pos d]
 rw[e]at c
 cases V with
 | nobody=>exact absurd (d.1.elim (λh=>h.2.2.1) (λh=>h.2.2.1)) iL
 | empty h=>exact absurd (d.1.elim (λh=>h.2.2.1) (λh=>h.2.2.1)) iL
 | @real w x h p=>
  have g:=h.ext f
  have hm:mof (some (w,x))=x.sp.mem:=rfl
  rw[hm]at c
  refine⟨_,rfl,_,g.hPtr,_,rfl,_,g.cd.cPtr,_,rfl,_,g.cd.sp.memPtr,?_⟩
  rw[w64 (n:=a / 8+b) (by omega)]
  refine HC.mono (fF g.cd.sp.mem p.mem (by omega)) ?_
  rintro _ r ⟨rfl,rfl⟩
  by_cases i:x.sp.mem.used (a / 8+b)
  ·rw[if_pos i]at c⊢
   exact⟨_,_,rfl,c _ _ ⟨rfl,f⟩⟩
  ·rw[if_neg i]at c⊢
   exact⟨_,_,rfl,c _ _ ⟨rfl,f⟩⟩
theorem iz{w:Int}(V:View H j k)(d:aC w):
  bY.C j w H (λv a=>v=.tuple #[vu (if(mof k).halfE w 0=0 then(mof k).get (w / 8+0)else 0),vi ((mof k).halfE w 0)]/\Ext H a):=by
 refine HC.via λR c=>bY.link ?_
 unfold bY.pt
 refine HC.mono (kU V d (by decide)) ?_
 rintro _ e ⟨rfl,b⟩
 exact⟨_,_,rfl,c _ _ ⟨rfl,b⟩⟩
theorem o7(V:View H j k)(e:aC a):
  eh.C j a H (λv b=>v=.tuple #[vu (if(mof k).halfE a 1=0 then(mof k).get (a / 8+1)else 0),vi ((mof k).halfE a 1)]/\Ext H b):=by
 refine HC.via λR d=>eh.link ?_
 unfold eh.pt
 refine HC.mono (kU V e (by decide)) ?_
 rintro _ f ⟨rfl,c⟩
 exact⟨_,_,rfl,d _ _ ⟨rfl,c⟩⟩
def lY(o:Option (Blk×Hp))(w i v:Int):Option (Blk×Hp):=
 match o with
 | none=>none
 | some (b,x)=>some (b,x.setMem (if x.sp.mem.isPair w then(x.sp.mem.store (w / 8+i) v).1 else x.sp.mem))
def hsetE(o:Option (Blk×Hp))(w i v:Int):Int:=if(mof o).isPair w then((mof o).store (w / 8+i) v).2 else 3
theorem o8(V:View H j k)(s:aC a)(A:0<=b/\b<=1)(f:aC u):
  eE.C j a b u H (λF q=>F=vi (hsetE k a b u)/\View q j (lY k a b u)/\Fr (own k) H q):=by
 refine HC.via λR m=>eE.link ?_
 unfold eE.pt zY
 refine HC.mono (jo V s) ?_
 rintro _ w ⟨B,rfl,v,g⟩
 refine⟨_,_,rfl,?_⟩
 by_cases c:(mof k).isPair a
 case neg=>
  rw[if_neg (by simpa using c)]
  have e:hsetE k a b u=3:=by unfold hsetE;rw[if_neg c]
  have i:lY k a b u=k:=by
   unfold lY
   match k,c with
   | none,_=>rfl
   | some (D,x),c=>
    have d: ¬x.sp.mem.isPair a:=c
    simp only;rw[if_neg d];rfl
  rw[e,i]at m
  exact m _ _ ⟨rfl,V.ext g,g.fr⟩
 rw[if_pos (zX c),v c]
 have z:=c.addr s
 cases V with
 | nobody=>exact absurd (c.1.elim (λh=>h.2.2.1) (λh=>h.2.2.1)) iL
 | empty h=>exact absurd (c.1.elim (λh=>h.2.2.1) (λh=>h.2.2.1)) iL
 | @real D x h t=>
  have l:=h.ext g
  have d:x.sp.mem.isPair a:=c
  refine⟨_,rfl,_,l.hPtr,?_⟩
  rw[w64 (n:=a / 8+b) (by omega)]
  refine HC.mono (jC l.cd t ⟨by omega,by omega⟩ f) ?_
  rintro _ y ⟨rfl,o,r⟩
  refine⟨_,rfl,m _ _ ⟨?_,?_,?_⟩⟩
  ·unfold hsetE;rw[if_pos c];rfl
  ·have i:lY (some (D,x)) a b u=some (D,x.setMem (x.sp.mem.store (a / 8+b) u).1):=by unfold lY;simp only;rw[if_pos d]
   rw[i]
   exact .real (l.withCd r (λE p=>by simp at p;omega) o) (t.store _ f)
  ·exact(g.fr (S:=own (some (D,x)))).trans (r.mono (λE p _=>by simp at p;simp[own];omega))
theorem mt(V:View H j k)(h:aC a)(c:aC b):
  df.C j a b H (λu d=>u=vi (hsetE k a 1 b)/\View d j (lY k a 1 b)/\Fr (own k) H d):=by
 refine HC.via λR g=>df.link ?_
 unfold df.pt
 refine HC.mono (o8 V h (by decide) c) ?_
 rintro _ i ⟨rfl,e,f⟩
 exact⟨_,rfl,g _ _ ⟨rfl,e,f⟩⟩
def Mem.sizeOf(m:Mem)(w:Int):Int:=if m.isPair w then 2 else if m.isObj w then m.len w+1 else 0
theorem nR(V:View H j k)(g:aC a):
  dK.C j a H (λv h=>v=vi ((mof k).sizeOf a)/\Ext H h):=by
 refine HC.via λR e=>dK.link ?_
 unfold dK.pt zY
 refine HC.mono (nQ V g) ?_
 rintro _ l ⟨rfl,d⟩
 refine⟨_,rfl,?_⟩
 by_cases c:(mof k).isPair a
 ·rw[if_pos (zX c)]
  exact e _ _ ⟨by unfold Mem.sizeOf;rw[if_pos c],d⟩
 rw[if_neg (by simpa using c)]
 refine HC.mono (gI (V.ext d) g) ?_
 rintro _ m ⟨rfl,f⟩
 refine⟨_,_,_,_,_,rfl,?_⟩
 by_cases b:(mof k).isObj a
 ·rw[if_pos (zX b)]
  have n:=b.len_lt
  have i:(mof k).len a=hn ((mof k).get (a / 8)):=by unfold Mem.len;rw[if_pos b]
  refine e _ _ ⟨?_,d.trans f⟩
  rw[w64 (by omega)];unfold Mem.sizeOf;rw[if_neg c,if_pos b]
 ·rw[if_neg (by simpa using b)]
  exact e _ _ ⟨by unfold Mem.sizeOf;rw[if_neg c,if_neg b],d.trans f⟩
theorem kV{H0 H:zV}(c:H[g]?=some (.cells #[vu a,vu b] 28 (0,0))):eK H (some ⟨g,0,none⟩) (wvs [a,b]):=
 ft c _ 0 0 (λj d=>by
  have:j=0\/j=1:=by simp at d;omega
  rcases this with rfl | rfl<;>rfl)
theorem kW(V:View H j k)(s:aC a)(t:aC b)(p:oI k):
  cM.C j a b H (λv e=>v=.tuple #[vu (putR k 0 1 [a,b]).1,vi (putR k 0 1 [a,b]).2]/\View e j (putO k 0 1 [a,b])/\Fr (own k) H e):=by
 refine HC.via λR n=>cM.link ?_
 unfold cM.pt
 intro u h o c
 have f:Ext H h:=Ext.push' c
 refine HC.mono (jR (ws:=[a,b]) (V.ext f) (kV (H0:=H) (aL o c)) rfl (λw g=>by simp at g;rcases g with rfl | rfl<;>assumption) (λi q d=>by simp at q;have:=V.own_lt i d;omega) p (by decide) (by simp)) ?_
 rintro _ r ⟨rfl,l,m⟩
 exact⟨_,_,rfl,n _ _ ⟨rfl,l,f.fr.trans m⟩⟩
theorem nS(V:View H j k)(s:aC a)(t:aC b)(p:oI k):
  dI.C j a b H (λv e=>v=.tuple #[vu (putR k 1 2 [a,b]).1,vi (putR k 1 2 [a,b]).2]/\View e j (putO k 1 2 [a,b])/\Fr (own k) H e):=by
 refine HC.via λR n=>dI.link ?_
 unfold dI.pt
 intro u h o c
 have f:Ext H h:=Ext.push' c
 refine HC.mono (jR (ws:=[a,b]) (V.ext f) (kV (H0:=H) (aL o c)) rfl (λw g=>by simp at g;rcases g with rfl | rfl<;>assumption) (λi q d=>by simp at q;have:=V.own_lt i d;omega) p (by decide) (by simp)) ?_
 rintro _ r ⟨rfl,l,m⟩
 exact⟨_,_,rfl,n _ _ ⟨rfl,l,f.fr.trans m⟩⟩
