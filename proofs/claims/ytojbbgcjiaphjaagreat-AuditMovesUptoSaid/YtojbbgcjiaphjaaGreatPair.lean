/-
  A memory of segments, said of abstract segments: how it stands on the heap, and the contracts of package seg. Proves nothing of any one statement.
-/
import Derived.Test.YtojbbgcjiaphjaaGreatFword
import Derived.Test.YtojbbgcjiaphjaaGreatWord
import Derived.Test.YtojbbgcjiaphjaaGreatFcardx
set_option linter.unusedVariables false
set_option linter.unusedSimpArgs false
namespace Go.Proofs.YtojbbgcjiaphjaaGreat
open Go
variable{H v:zV}{a b q:Int}{i u:Nat}{j:zW}{z:List Int}
abbrev I64(x:Int):Prop:= -9223372036854775808<=x/\x<=9223372036854775807
structure Seg where
  gen:Int
  kind:Int
  n:Int
  cards:Nat->Int
  taken:Int
  words:Nat->Int
def Seg.cell(s:Seg):Nat->Value
  | 0=> vi s.gen
  | 1=> vi s.kind
  | 2=> vi s.n
  | 3=> vi (s.cards 0)
  | 4=> vi (s.cards 1)
  | 5=> vi (s.cards 2)
  | 6=> vi (s.cards 3)
  | 7=> vi s.taken
  | j+8=> vu (s.words j)
def Seg.none:Seg:=⟨0,0,0,λ_=>0,0,λ_=>0⟩
def Seg.new(gen kind taken:Int):Seg:=⟨gen,kind,0,λ_=>5,taken,λ_=>0⟩
structure t8 (s:Seg):Prop where
  gen:0<=s.gen/\s.gen<=4
  kind:0<=s.kind/\s.kind<=3
  n:0<=s.n/\s.n<=64
  cards: ∀c,0<=s.cards c/\s.cards c<=5
  taken:0<=s.taken
  words: ∀j,aG (s.words j)
structure Mem where
  limit:Nat
  seg:Nat->Seg
  count:Int
  free:Int
variable{d:Mem}
def Mem.upd(m:Mem)(k:Nat)(s:Seg):Mem:={m with seg:=λi=>if i=k then s else m.seg i}
@[simp] theorem Mem.upd_limit (m:Mem) (k:Nat) (s:Seg):(m.upd k s).limit=m.limit:=rfl
@[simp] theorem Mem.upd_count (m:Mem) (k:Nat) (s:Seg):(m.upd k s).count=m.count:=rfl
@[simp] theorem Mem.upd_free (m:Mem) (k:Nat) (s:Seg):(m.upd k s).free=m.free:=rfl
theorem Mem.upd_same(m:Mem)(k:Nat)(s:Seg):(m.upd k s).seg k=s:=by simp[Mem.upd]
theorem Mem.upd_other(m:Mem)(s:Seg)(h:i≠u):(m.upd u s).seg i=m.seg i:=by simp[Mem.upd,h]
theorem Mem.upd_seg(m:Mem)(i k:Nat)(s:Seg):(m.upd k s).seg i=if i=k then s else m.seg i:=rfl
def Mem.nfree(m:Mem):Nat:=(List.range m.limit).countP (λk=>(m.seg k).taken==0)
structure bJ (m:Mem):Prop where
  lim:8<=m.limit/\m.limit<=1024
  seg: ∀k,t8 (m.seg k)
  free:m.free=m.nfree
  count:0<=m.count
theorem mc: ∀(n k:Nat) (p q:Nat->Bool),k<n->(∀i,i≠k->p i=q i)->p k=true->q k=false->(List.range n).countP p=(List.range n).countP q+1
  | 0,k,p,q,hk,_,_,_=>by omega
  | n+1,k,p,q,hk,hpq,h1,h2=>by
    rw[List.range_succ,List.countP_append,List.countP_append]
    by_cases a:k=n
    · subst a
      have e:(List.range k).countP p=(List.range k).countP q:=by
        refine List.countP_congr λi b=>?_
        have:i<k:=List.mem_range.1 b
        rw[hpq i (by omega)]
      rw[e]
      simp[h1,h2]
    · rw[mc n k p q (by omega) hpq h1 h2]
      simp[List.countP_cons,hpq n (λh=>a h.symm)]
      omega
theorem Mem.nfree_pos(h:d.nfree≠0): ∃k,k<d.limit/\(d.seg k).taken=0:=by
  have:0< (List.range d.limit).countP (λk=>(d.seg k).taken==0):=Nat.pos_of_ne_zero h
  obtain⟨k,hk,a⟩:=List.countP_pos_iff.1 this
  exact⟨k,List.mem_range.1 hk,by simpa using a⟩
theorem Mem.nfree_same{s:Seg}(h:s.taken=(d.seg i).taken):(d.upd i s).nfree=d.nfree:=by
  unfold Mem.nfree
  refine List.countP_congr λb _=>?_
  rw[Mem.upd_seg]
  by_cases a:b=i
  · rw[if_pos a,h,a]
  · rw[if_neg a]
theorem Mem.nfree_take{m:Mem}{k:Nat}{s:Seg}(hk:k<m.limit)(a:(m.seg k).taken=0)(b:s.taken≠0):m.nfree=(m.upd k s).nfree+1:=by
  refine mc _ k _ _ hk (λi c=>by rw[Mem.upd_other _ _ c]) (by simp[a]) ?_
  show(((m.upd k s).seg k).taken==0)=false
  rw[Mem.upd_same];simpa using b
theorem Mem.nfree_give{m:Mem}{k:Nat}{s:Seg}(hk:k<m.limit)(a:(m.seg k).taken≠0)(b:s.taken=0):(m.upd k s).nfree=m.nfree+1:=by
  refine mc _ k _ _ hk (λi c=>by rw[Mem.upd_other _ _ c]) ?_ (by simpa using a)
  show(((m.upd k s).seg k).taken==0)=true
  rw[Mem.upd_same];simp[b]
theorem bJ.upd{m:Mem}(h:bJ m){k:Nat}{s:Seg}(hs:t8 s)(ht:s.taken=(m.seg k).taken):bJ (m.upd k s):=
  ⟨h.lim, fun i => by rw [Mem.upd_seg]; by_cases hi : i = k; · rw [if_pos hi]; exact hs
                      · rw[if_neg hi];exact h.seg i,by rw[Mem.nfree_same ht];exact h.free,h.count⟩
structure cX (H:zV) (bm bs:Nat) (m:Mem):Prop where
  mem: ∃cap:Nat,H[bm]?=some (.cells #[vs (some ⟨bs,0,none⟩) m.limit cap,vi m.count,vi m.free] 130 (0,0))
  ne:bm≠bs
  segs: ∃cs:Array Value,H[bs]?=some (.cells cs 134 (0,0))/\m.limit*72<=cs.size/\ ∀k,k<m.limit-> ∀j,j<72->cs[k*72+j]?=some ((m.seg k).cell j)
theorem cX.keep{S:List Nat}(h:cX H i u d)(f:Fr S H v)(b:i ∉ S)(c:u ∉ S):cX v i u d:=by
  obtain⟨a,e,g⟩:=h.segs
  exact⟨⟨h.mem.choose,f.get b h.mem.choose_spec⟩,h.ne,a,f.get c e,g⟩
theorem cX.ext(h:cX H i u d)(f:Ext H v):cX v i u d:=h.keep (S:=[]) f.fr (by simp) (by simp)
theorem cX.lt{m:Mem}(h:cX H i u m):i<H.size/\u<H.size:=by
  obtain⟨b,a,_⟩:=h.segs
  exact⟨aW h.mem.choose_spec,aW a⟩
theorem cX.at{H:zV}{m:Mem}(h:cX H i u m){k j:Nat}(hk:k<m.limit)(b:j<72):hat H ⟨u,k*72+j,none⟩=some ((m.seg k).cell j):=by
  obtain⟨d,a,_,c⟩:=h.segs
  rw[aP a,c k hk j b]
theorem cX.segsAt(h:cX H i u d): ∃a:Nat,hat H ⟨i,0,none⟩=some (vs (some ⟨u,0,none⟩) d.limit a):=⟨h.mem.choose,by rw[aP h.mem.choose_spec];rfl⟩
theorem cX.countAt(h:cX H i u d):hat H ⟨i,1,none⟩=some (vi d.count):=by rw[aP h.mem.choose_spec];rfl
theorem cX.freeAt(h:cX H i u d):hat H ⟨i,2,none⟩=some (vi d.free):=by rw[aP h.mem.choose_spec];rfl
theorem cX.canPuts(h:cX H i u d){k o n:Nat}(hk:k<d.limit)(hn:o+n<=72):aK H ⟨u,k*72+o,none⟩ 0 n:=by
  obtain⟨b,a,c,_⟩:=h.segs
  refine cW a _ _ _ ?_
  have:(k+1)*72<=d.limit*72:=Nat.mul_le_mul_right _ hk
  omega
theorem cX.puts(h:cX H i u d){k o:Nat}{vs:List Value}{s:Seg}(hk:k<d.limit)(hn:o+vs.length<=72)
    (t: ∀j,j<vs.length->vs[j]?=some (s.cell (o+j))) (p: ∀j,j<72->(j<o\/o+vs.length<=j)->s.cell j=(d.seg k).cell j):
    cX (aR H ⟨u,k*72+o,none⟩ vs 0) i u (d.upd k s)/\Fr [u] H (aR H ⟨u,k*72+o,none⟩ vs 0):=by
  obtain⟨r,q,w,n⟩:=h.segs
  have v:(k+1)*72<=d.limit*72:=Nat.mul_le_mul_right _ hk
  rw[cH vs H r (k*72+o) 0 q,Nat.add_zero]
  refine⟨⟨⟨h.mem.choose,by rw[jm (λe=>h.ne e.symm)];exact h.mem.choose_spec⟩,h.ne,_,aY (aW q),by rw[splice_size];exact w,λx b j c=>?_⟩,Fr.set⟩
  rw[Mem.upd_seg]
  have b:x<d.limit:=b
  by_cases a:x=k
  · subst a
    rw[if_pos rfl]
    by_cases g:j<o
    · rw[dU _ _ _ _ (by omega),n x b j c,p j c (.inl g)]
    by_cases l:o+vs.length<=j
    · rw[gW _ _ _ _ (by omega),n x b j c,p j c (.inr l)]
    · rw[show x*72+j=x*72+o+(j-o)by omega,fF _ _ _ _ (by omega) (by omega),t (j-o) (by omega),show o+(j-o)=j by omega]
  · rw[if_neg a,<-n x b j c]
    rcases Nat.lt_or_gt_of_ne a with m | f
    · have:(x+1)*72<=k*72:=Nat.mul_le_mul_right _ m
      exact dU _ _ _ _ (by omega)
    · have:(k+1)*72<=x*72:=Nat.mul_le_mul_right _ f
      exact gW _ _ _ _ (by omega)
theorem cX.put(h:cX H i u d){k o:Nat}{v:Value}{s:Seg}(hk:k<d.limit)(hn:o<72)
    (b:s.cell o=v) (c: ∀j,j<72->j≠o->s.cell j=(d.seg k).cell j):
    cX (aR H ⟨u,k*72+o,none⟩ [v] 0) i u (d.upd k s)/\Fr [u] H (aR H ⟨u,k*72+o,none⟩ [v] 0):=by
  refine h.puts hk (by simp;omega) (λj a=>?_) (λj a e=>c j a (by simp at e;omega))
  simp only[List.length_singleton]at a
  obtain rfl:j=0:=by omega
  rw[Nat.add_zero,b];rfl
def Mem.has(m:Mem)(k:Int):Prop:=0<=k/\k<m.limit/\(m.seg k.toNat).taken≠0
instance (m:Mem) (k:Int):Decidable (m.has k):=by unfold Mem.has;infer_instance
theorem mJ(h:cX H i u d):
    gS.C (some ⟨i,0,none⟩) a H (λv j=>v=vp (if d.has a then some ⟨u,a.toNat*72,none⟩else none)/\j=H):=by
  refine HC.via λR c=>gS.link ?_
  unfold gS.pt
  rw[onPtr_some]
  by_cases f:a<0
  · rw[if_pos f];exact c _ _ ⟨by rw[if_neg (λb=>by have:=b.1;omega)],rfl⟩
  rw[if_neg f]
  refine⟨_,_,_,h.segsAt.choose_spec,?_⟩
  by_cases g:a>=(d.limit:Int)
  · rw[if_pos g];exact c _ _ ⟨by rw[if_neg (λb=>by have:=b.2.1;omega)],rfl⟩
  rw[if_neg g]
  have hk:a.toNat<d.limit:=by omega
  refine⟨_,_,_,h.segsAt.choose_spec,_,rfl,⟨by omega,by omega⟩,(d.seg a.toNat).taken,?_,?_⟩
  · simp only[addr_add_mk,Nat.zero_add];exact h.at hk (by omega)
  by_cases e:(d.seg a.toNat).taken=0
  · rw[if_pos e];exact c _ _ ⟨by rw[if_neg (λb=>b.2.2 e)],rfl⟩
  · rw[if_neg e]
    refine⟨_,_,_,h.segsAt.choose_spec,_,rfl,⟨by omega,by omega⟩,c _ _ ⟨?_,rfl⟩⟩
    rw[if_pos ⟨by omega,by omega,e⟩,addr_add_mk,Nat.zero_add]
def Seg.head(s:Seg):Value:=.agg #[vi s.gen,vi s.kind,vi s.n,vi (s.cards 0),vi (s.cards 1),vi (s.cards 2),vi (s.cards 3)]
theorem kL(h:cX H i u d):
    bH.C (some ⟨i,0,none⟩) a H (λv w=>v=.tuple #[(if d.has a then d.seg a.toNat else Seg.none).head,.bool (decide (d.has a))]/\Ext H w):=by
  refine HC.via λR t=>bH.link ?_
  unfold bH.pt
  intro b H1 x e
  have g:Ext H H1:=Ext.push' e
  have s:=aH x e
  refine HC.mono (mJ (h.ext g)) ?_
  rintro _ k ⟨rfl,rfl⟩
  refine⟨_,rfl,?_⟩
  by_cases hk:d.has a
  · rw[if_pos hk,onPtr_some]
    have p:a.toNat<d.limit:=by have:=hk.1;have:=hk.2.1;omega
    have f:aQ k ⟨u,a.toNat*72,none⟩ 0 [vi (d.seg a.toNat).gen,vi (d.seg a.toNat).kind,vi (d.seg a.toNat).n,vi ((d.seg a.toNat).cards 0),vi ((d.seg a.toNat).cards 1),vi ((d.seg a.toNat).cards 2),vi ((d.seg a.toNat).cards 3)]:=by
      have z:=λj (y:j<72)=>(h.ext g).at (j:=j) p y
      simp only[aQ,addr_add_mk]
      exact⟨z 0 (by omega),z 1 (by omega),z 2 (by omega),z 3 (by omega),z 4 (by omega),z 5 (by omega),z 6 (by omega),trivial⟩
    refine⟨_,_,_,_,_,_,_,f,?_⟩
    obtain⟨o,r⟩:=boxed (vs:=[vi (d.seg a.toNat).gen,vi (d.seg a.toNat).kind,vi (d.seg a.toNat).n,vi ((d.seg a.toNat).cards 0),vi ((d.seg a.toNat).cards 1),vi ((d.seg a.toNat).cards 2),vi ((d.seg a.toNat).cards 3)]) (H1:=k) s rfl rfl
    refine⟨o,λl c=>?_⟩
    obtain⟨q,m⟩:=r l c
    refine⟨_,_,_,_,_,_,_,q,t _ _ ⟨?_,m H g (by omega)⟩⟩
    rw[if_pos hk,zX hk];rfl
  · rw[if_neg hk,onPtr_none]
    obtain⟨o,r⟩:=boxed (vs:=[vi 0,vi 0,vi 0,vi 0,vi 0,vi 0,vi 0]) (H1:=k) s rfl rfl
    refine⟨o,λl c=>?_⟩
    obtain⟨q,m⟩:=r l c
    refine⟨_,_,_,_,_,_,_,q,t _ _ ⟨?_,m H g (by omega)⟩⟩
    rw[if_neg hk,zQ hk];rfl
def Mem.used(m:Mem)(a:Int):Prop:=0<=a/\m.has (a / 64)/\a % 64< (m.seg (a / 64).toNat).n
instance (m:Mem) (a:Int):Decidable (m.used a):=by unfold Mem.used;infer_instance
def Mem.get(m:Mem)(a:Int):Int:=(m.seg (a / 64).toNat).words (a % 64).toNat
def Seg.set(s:Seg)(i:Nat)(w:Int):Seg:={s with words:=λj=>if j=i then w else s.words j}
def Mem.set(m:Mem)(a w:Int):Mem:=m.upd (a / 64).toNat ((m.seg (a / 64).toNat).set (a % 64).toNat w)
theorem pE(h:cX H i u d)(l:bJ d)(k:a<=9223372036854775807):
    gY.C (some ⟨i,0,none⟩) a H (λv g=>v=vp (if d.used a then some ⟨u,(a / 64).toNat*72+(8+(a % 64).toNat),none⟩else none)/\g=H):=by
  refine HC.via λR c=>gY.link ?_
  unfold gY.pt zY
  by_cases f:a<0
  · rw[if_pos f];exact c _ _ ⟨by rw[if_neg (λb=>by have:=b.1;omega)],rfl⟩
  rw[if_neg f,jR (by omega),w64 (n:=a / 64) (by omega),jz (by omega)]
  refine HC.mono (mJ h) ?_
  rintro _ j ⟨rfl,rfl⟩
  refine⟨_,rfl,?_⟩
  by_cases hk:d.has (a / 64)
  · rw[if_pos hk,onPtr_some]
    have e:(a / 64).toNat<d.limit:=by have:=hk.1;have:=hk.2.1;omega
    refine⟨(d.seg (a / 64).toNat).n,by rw[addr_add_mk];exact h.at e (by omega),?_⟩
    by_cases hn:a % 64>=(d.seg (a / 64).toNat).n
    · rw[if_pos hn];exact c _ _ ⟨by rw[if_neg (λb=>by have:=b.2.2;omega)],rfl⟩
    · rw[if_neg hn]
      refine⟨⟨by omega,by omega⟩,c _ _ ⟨?_,rfl⟩⟩
      rw[if_pos ⟨by omega,hk,by omega⟩]
      simp only[addr_add_mk,Nat.mul_one]
      rw[Nat.add_assoc]
  · rw[if_neg hk,onPtr_none];exact c _ _ ⟨by rw[if_neg (λb=>hk b.2.1)],rfl⟩
theorem jX(h:cX H i u d)(j:bJ d)(g:a<=9223372036854775807):
    cK.C (some ⟨i,0,none⟩) a H (λv f=>v=(if d.used a then .tuple #[vu (d.get a),vi 0]else .tuple #[vu 0,vi 18])/\f=H):=by
  refine HC.via λR e=>cK.link ?_
  unfold cK.pt
  refine HC.mono (pE h j g) ?_
  rintro _ k ⟨rfl,rfl⟩
  refine⟨_,rfl,?_⟩
  by_cases b:d.used a
  · rw[if_pos b,onPtr_some]
    have c:(a / 64).toNat<d.limit:=by have:=b.2.1.1;have:=b.2.1.2.1;omega
    refine⟨d.get a,?_,e _ _ ⟨by rw[if_pos b],rfl⟩⟩
    rw[h.at c (by omega),show 8+(a % 64).toNat=(a % 64).toNat+8 by omega];rfl
  · rw[if_neg b,onPtr_none];exact e _ _ ⟨by rw[if_neg b],rfl⟩
theorem Seg.set_cell(s:Seg)(i:Nat)(w:Int):(s.set i w).cell (8+i)=vu w:=by
  rw[show 8+i=i+8 by omega];simp[Seg.cell,Seg.set]
theorem Seg.set_cell_other(s:Seg)(i:Nat)(w:Int): ∀j,j≠8+i->(s.set i w).cell j=s.cell j
  | 0,_ | 1,_ | 2,_ | 3,_ | 4,_ | 5,_ | 6,_ | 7,_=>rfl
  | j+8,h=>by simp[Seg.cell,Seg.set];intro e;omega
theorem jH{m:Mem}(h:cX H i u m)(q:bJ m)(n:a<=9223372036854775807):
    cM.C (some ⟨i,0,none⟩) a b H (λv f=>v=vi (if m.used a then 0 else 18)/\cX f i u (if m.used a then m.set a b else m)/\Fr [u] H f):=by
  refine HC.via λR g=>cM.link ?_
  unfold cM.pt
  refine HC.mono (pE h q n) ?_
  rintro _ r ⟨rfl,rfl⟩
  refine⟨_,rfl,?_⟩
  by_cases c:m.used a
  · rw[if_pos c,onPtr_some]
    have d:(a / 64).toNat<m.limit:=by have:=c.2.1.1;have:=c.2.1.2.1;omega
    refine⟨h.canPuts d (by omega),λt e=>?_⟩
    subst e
    obtain⟨k,l⟩:=h.put (v:=vu b) (s:=(m.seg (a / 64).toNat).set (a % 64).toNat b) d (o:=8+(a % 64).toNat) (by omega) (Seg.set_cell _ _ _) (λj _ p=>Seg.set_cell_other _ _ _ j p)
    exact g _ _ ⟨by rw[if_pos c],by rw[if_pos c];exact k,l⟩
  · rw[if_neg c,onPtr_none];exact g _ _ ⟨by rw[if_neg c],by rw[if_neg c];exact h,Fr.refl _ _⟩
def Seg.bump(s:Seg)(d:Int):Seg:={s with n:=s.n+d}
def Mem.bump(m:Mem)(k d:Int):Mem×Int×Int:=
  if ¬m.has k then(m,0,19)
  else if d<1 then(m,0,1)
  else if 64-(m.seg k.toNat).n<d then(m,0,2)
  else(m.upd k.toNat ((m.seg k.toNat).bump d),k*64+(m.seg k.toNat).n,0)
theorem pF(h:cX H i u d)(t:bJ d):
    hX.C (some ⟨i,0,none⟩) a b H (λv m=>v=.tuple #[vi (d.bump a b).2.1,vi (d.bump a b).2.2]/\cX m i u (d.bump a b).1/\Fr [u] H m):=by
  refine HC.via λR f=>hX.link ?_
  unfold hX.pt zY
  refine HC.mono (mJ h) ?_
  rintro _ w ⟨rfl,rfl⟩
  refine⟨_,rfl,?_⟩
  by_cases hk:d.has a
  · rw[if_pos hk,onPtr_some]
    have c:a.toNat<d.limit:=by have:=hk.1;have:=hk.2.1;omega
    have r:=t.lim
    have A:=(t.seg a.toNat).n
    have D:=hk.1
    by_cases k:b<1
    · rw[if_pos k]
      have e:d.bump a b=(d,0,1):=by unfold Mem.bump;rw[if_neg (λl=>l hk),if_pos k]
      rw[e]at f
      exact f _ _ ⟨rfl,h,Fr.refl _ _⟩
    rw[if_neg k]
    have hn:hat w (Addr.add ⟨u,a.toNat*72,none⟩ 2)=some (vi (d.seg a.toNat).n):=by rw[addr_add_mk];exact h.at c (by omega)
    refine⟨_,hn,?_⟩
    rw[w64 (n:=64-(d.seg a.toNat).n) (by omega)]
    by_cases q:b>64-(d.seg a.toNat).n
    · rw[if_pos q]
      have e:d.bump a b=(d,0,2):=by unfold Mem.bump;rw[if_neg (λl=>l hk),if_neg k,if_pos (by omega)]
      rw[e]at f
      exact f _ _ ⟨rfl,h,Fr.refl _ _⟩
    rw[if_neg q]
    have e:d.bump a b=(d.upd a.toNat ((d.seg a.toNat).bump b),a*64+(d.seg a.toNat).n,0):=by unfold Mem.bump;rw[if_neg (λl=>l hk),if_neg k,if_neg (by omega)]
    rw[e]at f
    refine⟨_,hn,by rw[addr_add_mk];exact h.canPuts c (by omega),λB g=>?_⟩
    rw[addr_add_mk,w64 (n:=(d.seg a.toNat).n+b) (by omega)]at g
    subst g
    obtain⟨p,x⟩:=h.put (v:=vi ((d.seg a.toNat).n+b)) (s:=(d.seg a.toNat).bump b) c (o:=2) (by omega) rfl (λj _ y=>by
      match j,y with
      | 0,_ | 1,_ | 3,_ | 4,_ | 5,_ | 6,_ | 7,_=>rfl
      | 2,h=>exact absurd rfl h
      | j+8,_=>rfl)
    refine⟨(d.seg a.toNat).n+b,?_,f _ _ ⟨?_,p,x⟩⟩
    · rw[addr_add_mk,p.at c (by omega),Mem.upd_same];rfl
    · have z:a<1024:=by have:=hk.2.1;omega
      rw[w64 (n:=a*64) (by omega),w64 (n:=a*64+((d.seg a.toNat).n+b)) (by omega),w64 (by omega)]
      rw[show a*64+((d.seg a.toNat).n+b)-b=a*64+(d.seg a.toNat).n by omega]
  · rw[if_neg hk,onPtr_none]
    have e:d.bump a b=(d,0,19):=by unfold Mem.bump;rw[if_pos hk]
    rw[e]at f
    exact f _ _ ⟨rfl,h,Fr.refl _ _⟩
def Seg.mark(s:Seg)(c:Nat)(v:Int):Seg:={s with cards:=λi=>if i=c then v else s.cards i}
def Mem.mark(m:Mem)(k c v:Int):Mem×Int:=
  if ¬m.has k then(m,19)
  else if c<0\/4<=c\/v<0\/5<v then(m,1)
  else(m.upd k.toNat ((m.seg k.toNat).mark c.toNat v),0)
theorem pG(h:cX H i u d):
    hC.C (some ⟨i,0,none⟩) a b q H (λv l=>v=vi (d.mark a b q).2/\cX l i u (d.mark a b q).1/\Fr [u] H l):=by
  refine HC.via λR c=>hC.link ?_
  unfold hC.pt
  refine HC.mono (mJ h) ?_
  rintro _ t ⟨rfl,rfl⟩
  refine⟨_,rfl,?_⟩
  by_cases hk:d.has a
  · rw[if_pos hk,onPtr_some]
    have g:a.toNat<d.limit:=by have:=hk.1;have:=hk.2.1;omega
    by_cases m:b<0\/4<=b\/q<0\/5<q
    · rw[if_pos (by simp;omega)]
      have e:d.mark a b q=(d,1):=by unfold Mem.mark;rw[if_neg (λk=>k hk),if_pos m]
      rw[e]at c
      exact c _ _ ⟨rfl,h,Fr.refl _ _⟩
    · rw[if_neg (by simp;omega)]
      have e:d.mark a b q=(d.upd a.toNat ((d.seg a.toNat).mark b.toNat q),0):=by unfold Mem.mark;rw[if_neg (λk=>k hk),if_neg m]
      rw[e]at c
      simp only[addr_add_mk,Nat.mul_one]
      refine⟨⟨by omega,by omega⟩,by rw[Nat.add_assoc];exact h.canPuts g (by omega),λw f=>?_⟩
      rw[Nat.add_assoc]at f
      subst f
      obtain⟨n,p⟩:=h.put (v:=vi q) (s:=(d.seg a.toNat).mark b.toNat q) g (o:=3+b.toNat) (by omega) (by
          have:b.toNat=0\/b.toNat=1\/b.toNat=2\/b.toNat=3:=by omega
          rcases this with e | e | e | e<;>rw[e]<;>rfl) (λj _ r=>by
        match j,r with
        | 0,_ | 1,_ | 2,_ | 7,_=>rfl
        | 3,h | 4,h | 5,h | 6,h=>simp only[Seg.cell,Seg.mark];rw[if_neg (by omega)]
        | j+8,_=>rfl)
      exact c _ _ ⟨rfl,n,p⟩
  · rw[if_neg hk,onPtr_none]
    have e:d.mark a b q=(d,19):=by unfold Mem.mark;rw[if_pos hk]
    rw[e]at c
    exact c _ _ ⟨rfl,h,Fr.refl _ _⟩
def Mem.first(m:Mem):Nat:=((List.range m.limit).find? (λk=>(m.seg k).taken==0)).getD 0
theorem Mem.first_eq(hk:i<d.limit)(a:(d.seg i).taken=0)(b: ∀j,j<i->(d.seg j).taken≠0):d.first=i:=by
  unfold Mem.first
  have:(List.range d.limit).find? (λi=>(d.seg i).taken==0)=some i:=by
    rw[List.find?_range_eq_some]
    refine⟨by simp[a],by simp[hk],λj c=>by simpa using b j c⟩
  rw[this];rfl
def Mem.take(m:Mem)(gen kind:Int):Mem×Int×Int:=
  if gen<0\/4<gen\/kind<0\/3<kind then(m,0,1)
  else if m.free=0 then(m,0,2)
  else({m with count:=m.count+1,free:=m.free-1}.upd m.first (Seg.new gen kind (m.count+1)),m.first,0)
theorem ve(b a t:Int): ∃vs:List Value,vs=([vi b,vi a,vi 0,vi 5,vi 5,vi 5,vi 5,vi t]++List.replicate 64 (vu 0):List Value)/\vs.length=72/\ ∀j,j<72->vs[j]?=some ((Seg.new b a t).cell j):=by
  refine⟨_,rfl,by simp,λj c=>?_⟩
  match j,c with
  | 0,_ | 1,_ | 2,_ | 3,_ | 4,_ | 5,_ | 6,_ | 7,_=>rfl
  | j+8,c=>
    rw[List.getElem?_append_right (by simp)]
    simp only[List.length_cons,List.length_nil]
    rw[List.getElem?_replicate,if_pos (by omega)];rfl
theorem qF: ∃z:Array Value,z=(List.replicate 8 (vi 0)++List.replicate 64 (vu 0):List Value).toArray/\z.size=72/\ ∀j,j<72->z[j]?=some (Seg.none.cell j):=by
  refine⟨_,rfl,by simp,λj a=>?_⟩
  rw[List.getElem?_toArray]
  match j,a with
  | 0,_ | 1,_ | 2,_ | 3,_ | 4,_ | 5,_ | 6,_ | 7,_=>rfl
  | j+8,a=>
    rw[List.getElem?_append_right (by simp)]
    simp only[List.length_replicate]
    rw[List.getElem?_replicate,if_pos (by omega)];rfl
theorem th(h:cX H i u d)(r:bJ d)(hc:d.count<4611686018427387904):
    iO.C (some ⟨i,0,none⟩) a b H (λv B=>v=.tuple #[vi (d.take a b).2.1,vi (d.take a b).2.2]/\cX B i u (d.take a b).1/\Fr [i,u] H B):=by
  refine HC.via λR q=>iO.link ?_
  unfold iO.pt zY
  rw[onPtr_some]
  have W:=r.lim
  have c:(a<0\/4<a\/b<0\/3<b)->R (.tuple #[vi 0,vi 1]) H:=λM=>by
    have e:d.take a b=(d,0,1):=by unfold Mem.take;rw[if_pos M]
    rw[e]at q
    exact q _ _ ⟨rfl,h,Fr.refl _ _⟩
  by_cases I:a<0
  · rw[if_pos I];exact c (.inl I)
  rw[if_neg I]
  by_cases J:a>4
  · rw[if_pos J];exact c (.inr (.inl J))
  rw[if_neg J]
  by_cases K:b<0
  · rw[if_pos K];exact c (.inr (.inr (.inl K)))
  rw[if_neg K]
  by_cases L:b>3
  · rw[if_pos L];exact c (.inr (.inr (.inr L)))
  rw[if_neg L]
  refine⟨_,_,_,h.segsAt.choose_spec,?_⟩
  rw[if_neg (by omega)]
  refine⟨d.free,by rw[addr_add_mk];exact h.freeAt,?_⟩
  by_cases t:d.free=0
  · rw[if_pos t]
    have e:d.take a b=(d,0,2):=by unfold Mem.take;rw[if_neg (by omega),if_pos t]
    rw[e]at q
    exact q _ _ ⟨rfl,h,Fr.refl _ _⟩
  rw[if_neg t]
  have Q:d.nfree≠0:=λe=>t (by rw[r.free,e];rfl)
  have P:=Mem.nfree_pos Q
  have N:d.free<=1024:=by
    rw[r.free]
    have:d.nfree<=(List.range d.limit).length:=List.countP_le_length
    simp at this
    omega
  have E:0<=d.free:=by rw[r.free];omega
  refine⟨λk B=>B=H/\0<=k/\ ∀j:Nat,j<k.toNat->(d.seg j).taken≠0,λk _=>(1024-k).toNat,⟨rfl,by omega,λj p=>by simp at p⟩,?_⟩
  rintro k Z ⟨rfl,X,p⟩
  obtain⟨Y,a5,O⟩:=P
  have g:k.toNat<d.limit:=by
    rcases Nat.lt_or_ge Y k.toNat with h | h
    · exact absurd O (p Y h)
    · omega
  refine⟨_,_,_,h.segsAt.choose_spec,_,rfl,⟨X,by omega⟩,(d.seg k.toNat).taken,by simp only[addr_add_mk,Nat.zero_add];exact h.at g (by omega),?_⟩
  have ht:=(r.seg k.toNat).taken
  by_cases z:(d.seg k.toNat).taken>0
  · rw[if_pos z,w64 (n:=k+1) (by omega)]
    refine⟨⟨rfl,by omega,λj a4=>?_⟩,by show(1024-(k+1)).toNat< (1024-k).toNat;omega⟩
    by_cases e:j=k.toNat
    · subst e;omega
    · exact p j (by omega)
  rw[if_neg z]
  have A:(d.seg k.toNat).taken=0:=by omega
  have f:d.first=k.toNat:=Mem.first_eq g A p
  have V:=r.count
  refine⟨d.count,by rw[addr_add_mk];exact h.countAt,by rw[addr_add_mk];exact cW h.mem.choose_spec _ _ _ (by simp),λH2 l=>?_⟩
  rw[addr_add_mk,cH _ _ _ _ _ h.mem.choose_spec,w64 (n:=d.count+1) (by omega)]at l
  have G:H2[i]?=some (.cells #[vs (some ⟨u,0,none⟩) d.limit h.mem.choose,vi (d.count+1),vi d.free] 130 (0,0)):=by rw[l,aY h.lt.1];rfl
  refine⟨d.free,by rw[addr_add_mk,aP G];rfl,by rw[addr_add_mk];exact cW G _ _ _ (by simp),λS m=>?_⟩
  rw[addr_add_mk,cH _ _ _ _ _ G,w64 (n:=d.free-1) (by omega),l,nG]at m
  have D:cX S i u {d with count:=d.count+1,free:=d.free-1}:=by
    subst m
    obtain⟨cs,M,hr⟩:=h.segs
    exact⟨⟨h.mem.choose,by rw[aY h.lt.1];rfl⟩,h.ne,cs,by rw[jm h.ne];exact M,hr⟩
  have f3:Fr [i] Z S:=by subst m;exact Fr.set
  refine⟨_,_,_,D.segsAt.choose_spec,d.count+1,by rw[addr_add_mk];exact D.countAt,_,rfl,⟨X,by show k< (d.limit:Int);omega⟩,?_⟩
  simp only[addr_add_mk,Nat.zero_add]
  have x:=D.canPuts (k:=k.toNat) (o:=0) (n:=72) g (by omega)
  rw[Nat.add_zero]at x
  refine⟨x,λH4 w=>?_⟩
  obtain⟨vs,F,hl,hg⟩:=ve a b (d.count+1)
  rw[<-F]at w
  obtain⟨U,T⟩:=D.puts (k:=k.toNat) (o:=0) (vs:=vs) (s:=Seg.new a b (d.count+1)) g (by omega) (λj p=>by rw[Nat.zero_add];exact hg j (by omega)) (λj p ho=>by omega)
  rw[Nat.add_zero]at U T
  have e:d.take a b=({d with count:=d.count+1,free:=d.free-1}.upd k.toNat (Seg.new a b (d.count+1)),k,0):=by
    unfold Mem.take
    rw[if_neg (by omega),if_neg t,f,show((k.toNat:Nat):Int)=k by omega]
  rw[e]at q
  subst w
  exact q _ _ ⟨rfl,U,(f3.trans' T (λac y _=>by simp at y;simp[y]) (λac y _=>by simp at y;simp[y]))⟩
def Mem.fresh(limit:Nat):Mem:=⟨limit,λ_=>Seg.none,0,limit⟩
theorem nt:t8 Seg.none:=⟨by decide,by decide,by decide,λ_=>(by decide:(0:Int)<=0/\(0:Int)<=5),by decide,λ_=>(by decide:aG 0)⟩
theorem sd(h:8<=i/\i<=1024):bJ (Mem.fresh i):=
  ⟨h,λ_=>nt,by
    show(i:Int)=_
    unfold Mem.nfree
    have:(List.range i).countP (λk=>((Mem.fresh i).seg k).taken==0)=(List.range i).length:=List.countP_eq_length.2 (λ_ _=>rfl)
    show(i:Int)=(((List.range i).countP (λk=>((Mem.fresh i).seg k).taken==0):Nat):Int)
    rw[this];simp,Int.le_refl _⟩
theorem uq(A:I64 a):
    lq.C a H (λv e=>(¬(8<=a/\a<=1024)/\v=.tuple #[vp none,vi 1]/\e=H)\/
      ((8<=a/\a<=1024)/\ ∃f g,v=.tuple #[vp (some ⟨f,0,none⟩),vi 0]/\cX e f g (Mem.fresh a.toNat)/\Ext H e/\H.size<=g/\g<f)):=by
  refine HC.via λR p=>lq.link ?_
  unfold lq.pt
  by_cases h:8<=a/\a<=1024
  · rw[if_neg (by simp;omega)]
    obtain⟨z,s,r,u⟩:=qF
    rw[<-s]
    refine⟨by omega,by omega,by omega,by omega,λb x q c m y i d=>p _ _ (.inr ⟨h,m,b,rfl,?_,(Ext.push' c).trans (Ext.push' d),by omega,?_⟩)⟩
    · have o:=aH q c
      have t:=aH i d
      have l:m≠b:=by have:=aW o;omega
      refine⟨⟨a.toNat,?_⟩,l,_,(Ext.push' d).get o,?_,?_⟩
      · rw[t]
        show _=some (Obj.cells #[vs (some ⟨b,0,none⟩) a.toNat a.toNat,vi 0,vi ((a.toNat:Nat):Int)] _ _)
        rw[show((a.toNat:Nat):Int)=a by omega]
      · rw[mH,r];exact Nat.le_refl _
      · intro k hk j w
        have:=qh (z:=z) (n:=a.toNat) (k:=k) (j:=j) hk (by omega)
        rw[r]at this
        rw[this,u j w];rfl
    · have:=aW (aH q c);omega
  · rw[if_pos (by simp;omega)]
    exact p _ _ (.inl ⟨h,rfl,rfl⟩)
theorem bJ.bump(a:bJ d)(k e:Int):bJ (d.bump k e).1:=by
 unfold Mem.bump
 by_cases hk:d.has k
 ·rw[if_neg (λh=>h hk)]
  by_cases b:e<1
  ·rw[if_pos b];exact a
  rw[if_neg b]
  by_cases c:64-(d.seg k.toNat).n<e
  ·rw[if_pos c];exact a
  rw[if_neg c]
  have s:=a.seg k.toNat
  exact a.upd ⟨s.gen,s.kind,by have:=s.n;show 0<=(d.seg k.toNat).n+e/\(d.seg k.toNat).n+e<=64;omega,s.cards,s.taken,s.words⟩ rfl
 ·rw[if_pos hk];exact a
theorem Mem.bump_lim(m:Mem)(k d:Int):(m.bump k d).1.limit=m.limit/\(m.bump k d).1.count=m.count/\(m.bump k d).1.free=m.free:=by
 unfold Mem.bump
 split
 ·exact⟨rfl,rfl,rfl⟩
 split
 ·exact⟨rfl,rfl,rfl⟩
 split<;>exact⟨rfl,rfl,rfl⟩
theorem Mem.bump_fail(h:(d.bump a b).2.2≠0):(d.bump a b).1=d:=by
 unfold Mem.bump at*
 split
 ·rfl
 ·rename_i c
  rw[if_neg c]at h
  split
  ·rfl
  ·rename_i e
   rw[if_neg e]at h
   split
   ·rfl
   ·rename_i f
    rw[if_neg f]at h
    exact absurd rfl h
theorem Mem.first_spec(i:bJ d)(h:d.free≠0):d.first<d.limit/\(d.seg d.first).taken=0:=by
 have b:d.nfree≠0:=λe=>h (by rw[i.free,e];rfl)
 obtain⟨k,hk,c⟩:=Mem.nfree_pos b
 have g:((List.range d.limit).find? (λk=>(d.seg k).taken==0)).isSome=true:=by
  rw[List.find?_isSome];exact⟨k,List.mem_range.2 hk,by simp[c]⟩
 obtain⟨j,a⟩:=Option.isSome_iff_exists.1 g
 have f:=List.find?_some a
 have hm:=List.mem_of_find?_eq_some a
 unfold Mem.first
 rw[a]
 exact⟨List.mem_range.1 hm,by simpa using f⟩
theorem bJ.take{m:Mem}(c:bJ m)(b a:Int):bJ (m.take b a).1:=by
 unfold Mem.take
 by_cases f:b<0\/4<b\/a<0\/3<a
 ·rw[if_pos f];exact c
 rw[if_neg f]
 by_cases d:m.free=0
 ·rw[if_pos d];exact c
 rw[if_neg d]
 obtain⟨l,j⟩:=Mem.first_spec c d
 have n:=c.count
 refine⟨c.lim,λi=>?_,?_,by show 0<=m.count+1;omega⟩
 ·rw[Mem.upd_seg]
  by_cases g:i=m.first
  ·rw[if_pos g]
   exact⟨by show 0<=b/\b<=4;omega,by show 0<=a/\a<=3;omega,(by decide:(0:Int)<=0/\(0:Int)<=64),λ_=>(by decide:(0:Int)<=5/\(5:Int)<=5),by show 0<=m.count+1;omega,λ_=>(by decide:aG 0)⟩
  ·rw[if_neg g];exact c.seg i
 ·show m.free-1=_
  have e:=Mem.nfree_take (m:=m) (k:=m.first) (s:=Seg.new b a (m.count+1)) l j (by show m.count+1≠0;omega)
  have h:({m with count:=m.count+1,free:=m.free-1}.upd m.first (Seg.new b a (m.count+1))).nfree=(m.upd m.first (Seg.new b a (m.count+1))).nfree:=rfl
  rw[h,c.free,e];omega
theorem bJ.set{m:Mem}(b:bJ m)(a:Int){w:Int}(c:aG w):bJ (m.set a w):=by
 have s:=b.seg (a / 64).toNat
 refine b.upd ⟨s.gen,s.kind,s.n,s.cards,s.taken,λj=>?_⟩ rfl
 simp only[Seg.set]
 by_cases h:j=(a % 64).toNat
 ·rw[if_pos h];exact c
 ·rw[if_neg h];exact s.words j
theorem bJ.mark{m:Mem}(a:bJ m)(k c v:Int):bJ (m.mark k c v).1:=by
 unfold Mem.mark
 by_cases hk:m.has k
 ·rw[if_neg (λh=>h hk)]
  by_cases b:c<0\/4<=c\/v<0\/5<v
  ·rw[if_pos b];exact a
  rw[if_neg b]
  have s:=a.seg k.toNat
  refine a.upd ⟨s.gen,s.kind,s.n,λi=>?_,s.taken,s.words⟩ rfl
  simp only[Seg.mark]
  by_cases h:i=c.toNat
  ·rw[if_pos h];omega
  ·rw[if_neg h];exact s.cards i
 ·rw[if_pos hk];exact a
structure Sp where
 mem:Mem
 cur:Nat->Nat->Int
variable{o:Sp}
structure Blk where
 h:Nat
 c:Nat
 sp:Nat
 m:Nat
 s:Nat
variable{r:Blk}
def Blk.all(b:Blk):List Nat:=[b.h,b.c,b.sp,b.m,b.s]
structure SpOK (s:Sp):Prop where
 mem:bJ s.mem
 cur: ∀g k,s.cur g k=0\/(1<=s.cur g k/\s.mem.has (s.cur g k-1)/\(s.mem.seg (s.cur g k-1).toNat).gen=g/\(s.mem.seg (s.cur g k-1).toNat).kind=k)
structure SpAt (H:zV) (b:Blk) (s:Sp):Prop where
 mem:cX H b.m b.s s.mem
 ne:b.sp≠b.m/\b.sp≠b.s
 sp: ∃cs:Array Value,H[b.sp]?=some (.cells cs 74 (0,0))/\cs.size=21/\cs[0]?=some (vp (some ⟨b.m,0,none⟩))/\ ∀g k,g<5->k<4->cs[1+g*4+k]?=some (vi (s.cur g k))
theorem SpAt.keep{S:List Nat}(h:SpAt H r o)(f:Fr S H v)(b:r.sp ∉ S)(c:r.m ∉ S)(d:r.s ∉ S):SpAt v r o:=by
 obtain⟨a,e,g⟩:=h.sp
 exact⟨h.mem.keep f c d,h.ne,a,f.get b e,g⟩
theorem SpAt.ext{b:Blk}{s:Sp}(h:SpAt H b s)(f:Ext H v):SpAt v b s:=h.keep (S:=[]) f.fr (by simp) (by simp) (by simp)
theorem SpAt.withMem{S:List Nat}{m:Mem}(h:SpAt H r o)(f:Fr S H v)(b:r.sp ∉ S)(hm:cX v r.m r.s m):SpAt v r {o with mem:=m}:=by
 obtain⟨a,c,d⟩:=h.sp
 exact⟨hm,h.ne,a,f.get b c,d⟩
theorem SpAt.memPtr{s:Sp}(h:SpAt H r s):hat H ⟨r.sp,0,none⟩=some (vp (some ⟨r.m,0,none⟩)):=by
 obtain⟨c,b,_,a,_⟩:=h.sp
 rw[aP b,a]
theorem SpAt.curAt(h:SpAt H r o){g k:Nat}(c:g<5)(hk:k<4):hat H ⟨r.sp,1+g*4+k,none⟩=some (vi (o.cur g k)):=by
 obtain⟨d,a,_,_,b⟩:=h.sp
 rw[aP a,b g k c hk]
def Sp.setCur(s:Sp)(g k:Nat)(v:Int):Sp:={s with cur:=λi j=>if i=g/\j=k then v else s.cur i j}
theorem SpAt.putCur(h:SpAt H r o){g k:Nat}{v:Int}(p:g<5)(hk:k<4):
  aK H ⟨r.sp,1+g*4+k,none⟩ 0 1/\SpAt (aR H ⟨r.sp,1+g*4+k,none⟩ [vi v] 0) r (o.setCur g k v)/\Fr [r.sp] H (aR H ⟨r.sp,1+g*4+k,none⟩ [vi v] 0):=by
 obtain⟨b,a,n,c,d⟩:=h.sp
 refine⟨cW a _ _ _ (by omega),?_⟩
 rw[cH _ H b _ 0 a]
 refine⟨⟨h.mem.keep (S:=[r.sp]) Fr.set (by have:=h.ne;simp;omega) (by have:=h.ne;simp;omega),h.ne,_,aY (aW a),by rw[splice_size];exact n,?_,λi j f l=>?_⟩,Fr.set⟩
 ·rw[dU _ _ _ _ (by omega)];exact c
 ·simp only[Sp.setCur]
  by_cases e:i=g/\j=k
  ·rw[if_pos e,e.1,e.2]
   have:=fF b [vi v] (1+g*4+k+0) 0 (by simp;omega) (by simp)
   simpa using this
  ·rw[if_neg e,<-d i j f l]
   rcases Nat.lt_or_ge (1+i*4+j) (1+g*4+k)with m | m
   ·exact dU _ _ _ _ (by omega)
   ·exact gW _ _ _ _ (by simp;omega)
theorem me(h:SpAt H r o):dE.C (some ⟨r.sp,0,none⟩) H (λv a=>v=VF/\a=H):=by
 refine HC.via λR b=>dE.link ?_
 unfold dE.pt
 rw[onPtr_some]
 refine⟨_,h.memPtr,?_⟩
 rw[onPtr_some]
 exact b _ _ ⟨rfl,rfl⟩
def may(gen kind n:Int):Prop:=(0<=gen/\gen<=4)/\(((kind=0\/kind=1)/\n=2)\/((kind=2\/kind=3)/\1<=n/\n<=63))
instance (gen kind n:Int):Decidable (may gen kind n):=by unfold may;infer_instance
theorem se:j5.C a b q H (λv f=>v=.bool (decide (may a b q))/\f=H):=by
 refine HC.via λR c=>j5.link ?_
 unfold j5.pt
 by_cases d:a<0\/a>4
 ·rw[if_pos (by simpa using d)]
  exact c _ _ ⟨by rw[zQ (λh=>by have:=h.1;omega)],rfl⟩
 rw[if_neg (by simpa using d)]
 by_cases e:b=0\/b=1
 ·rw[if_pos (by simpa using e)]
  refine c _ _ ⟨?_,rfl⟩
  congr 1
  rw[Bool.eq_iff_iff,decide_eq_true_eq]
  unfold may
  simp only[decide_eq_true_eq,beq_iff_eq,Bool.and_eq_true,Bool.or_eq_true]
  omega
 ·rw[if_neg (by simpa using e)]
  refine c _ _ ⟨?_,rfl⟩
  congr 1
  rw[Bool.eq_iff_iff,decide_eq_true_eq]
  unfold may
  simp only[decide_eq_true_eq,beq_iff_eq,Bool.and_eq_true,Bool.or_eq_true]
  omega
theorem o9(h:SpAt H r o)(g:SpOK o)(k:0<=a/\a<=4)(hk:0<=b/\b<=3):
  cZ.C (some ⟨r.sp,0,none⟩) a b H (λv i=>v=(if o.cur a.toNat b.toNat=0 then .tuple #[vi 0,VF]else .tuple #[vi (o.cur a.toNat b.toNat-1),VT])/\i=H):=by
 refine HC.via λR e=>cZ.link ?_
 unfold cZ.pt zY
 rw[onPtr_some,if_neg (by omega),if_neg (by omega),if_neg (by omega),if_neg (by omega)]
 have f:hat H (Addr.add (Addr.add (Addr.add ⟨r.sp,0,none⟩ 1) (a.toNat*4)) (b.toNat*1))=some (vi (o.cur a.toNat b.toNat)):=by
  simp only[addr_add_mk,Nat.zero_add,Nat.mul_one]
  exact h.curAt (by omega) (by omega)
 refine⟨by omega,by omega,_,f,?_⟩
 by_cases c:o.cur a.toNat b.toNat=0
 ·rw[if_pos c];exact e _ _ ⟨by rw[if_pos c],rfl⟩
 ·rw[if_neg c]
  refine⟨by omega,by omega,_,f,e _ _ ⟨?_,rfl⟩⟩
  rw[if_neg c]
  have l:=g.mem.lim
  rcases g.cur a.toNat b.toNat with d | ⟨d,j,_⟩
  ·exact absurd d c
  ·rw[w64 (by have:=j.2.1;omega)]
def Sp.alloc(s:Sp)(gen kind n:Int):Sp×Int×Int:=
 if ¬may gen kind n then(s,0,1)
 else if s.cur gen.toNat kind.toNat≠0/\(s.mem.bump (s.cur gen.toNat kind.toNat-1) n).2.2=0 then
  ({s with mem:=(s.mem.bump (s.cur gen.toNat kind.toNat-1) n).1},(s.mem.bump (s.cur gen.toNat kind.toNat-1) n).2.1,0)
 else if(s.mem.take gen kind).2.2=0 then
  ({mem:=((s.mem.take gen kind).1.bump (s.mem.take gen kind).2.1 n).1,cur:=(s.setCur gen.toNat kind.toNat ((s.mem.take gen kind).2.1+1)).cur},((s.mem.take gen kind).1.bump (s.mem.take gen kind).2.1 n).2.1,((s.mem.take gen kind).1.bump (s.mem.take gen kind).2.1 n).2.2)
 else(s,0,(s.mem.take gen kind).2.2)
theorem nj(h:SpAt H r o)(s:SpOK o)(z:o.mem.count<4611686018427387904):
  dJ.C (some ⟨r.sp,0,none⟩) a b q H (λv t=>v=.tuple #[vi (o.alloc a b q).2.1,vi (o.alloc a b q).2.2]/\SpAt t r (o.alloc a b q).1/\Fr [r.sp,r.m,r.s] H t):=by
 refine HC.via λR l=>dJ.link ?_
 unfold dJ.pt zY
 refine HC.mono (me h) ?_
 rintro _ u ⟨rfl,rfl⟩
 refine⟨_,rfl,?_⟩
 rw[if_neg (by decide)]
 refine HC.mono se ?_
 rintro _ u ⟨rfl,rfl⟩
 refine⟨_,rfl,?_⟩
 by_cases hm:may a b q
 case neg=>
  rw[if_neg (by simpa using hm)]
  have e:o.alloc a b q=(o,0,1):=by unfold Sp.alloc;rw[if_pos hm]
  rw[e]at l
  exact l _ _ ⟨rfl,h,Fr.refl _ _⟩
 rw[if_pos (zX hm)]
 have Z:=hm.1
 have hk:0<=b/\b<=3:=by have:=hm.2;omega
 refine HC.mono (o9 h s Z hk) ?_
 rintro _ u ⟨rfl,rfl⟩
 have L: ∃(G:Int) (E:Bool),(if o.cur a.toNat b.toNat=0 then Value.tuple #[vi 0,VF]else .tuple #[vi (o.cur a.toNat b.toNat-1),VT])=.tuple #[vi G,.bool E]/\((E=false/\o.cur a.toNat b.toNat=0)\/(E=true/\o.cur a.toNat b.toNat≠0/\G=o.cur a.toNat b.toNat-1)):=by
  by_cases j:o.cur a.toNat b.toNat=0
  ·rw[if_pos j];exact⟨_,_,rfl,.inl ⟨rfl,j⟩⟩
  ·rw[if_neg j];exact⟨_,_,rfl,.inr ⟨rfl,j,rfl⟩⟩
 obtain⟨G,E,hv,Y⟩:=L
 refine⟨G,E,hv,?_⟩
 refine⟨λt=>SpAt t r o/\Fr [r.sp,r.m,r.s] u t/\ ¬(o.cur a.toNat b.toNat≠0/\(o.mem.bump (o.cur a.toNat b.toNat-1) q).2.2=0),?_,?_⟩
 ·rcases Y with⟨rfl,j⟩ | ⟨rfl,j,rfl⟩
  ·rw[if_neg (by decide)]
   exact⟨h,Fr.refl _ _,λf=>f.1 j⟩
  ·rw[if_pos rfl]
   refine⟨_,rfl,_,h.memPtr,?_⟩
   refine HC.mono (pF h.mem s.mem) ?_
   rintro _ U ⟨rfl,n,I⟩
   refine⟨_,_,rfl,?_⟩
   have w:Fr [r.sp,r.m,r.s] u U:=I.mono (λi d _=>by simp at d;simp[d])
   by_cases y:(o.mem.bump (o.cur a.toNat b.toNat-1) q).2.2=0
   ·rw[if_pos y]
    have e:o.alloc a b q=({o with mem:=(o.mem.bump (o.cur a.toNat b.toNat-1) q).1},(o.mem.bump (o.cur a.toNat b.toNat-1) q).2.1,0):=by
     unfold Sp.alloc;rw[if_neg (λf=>f hm),if_pos ⟨j,y⟩]
    rw[e]at l
    exact l _ _ ⟨rfl,h.withMem I (by have:=h.ne;simp;omega) n,w⟩
   ·rw[if_neg y]
    rw[Mem.bump_fail y]at n
    have:=h.withMem I (by have:=h.ne;simp;omega) n
    exact⟨this,w,λf=>y f.2⟩
 rintro H4 ⟨F,W,A⟩
 refine⟨_,rfl,_,F.memPtr,?_⟩
 refine HC.mono (th F.mem s.mem z) ?_
 rintro _ V ⟨rfl,p,J⟩
 refine⟨_,_,rfl,?_⟩
 have D:r.sp ∉ [r.m,r.s]:=by have:=h.ne;simp;omega
 have x:Fr [r.sp,r.m,r.s] u V:=W.trans (J.mono (λi d _=>by simp at d;simp;omega))
 by_cases c:(o.mem.take a b).2.2=0
 ·rw[if_pos c]
  have X:=F.withMem J D p
  have B:=X.putCur (g:=a.toNat) (k:=b.toNat) (v:=(o.mem.take a b).2.1+1) (by omega) (by omega)
  have P: -9223372036854775808<=(o.mem.take a b).2.1+1/\(o.mem.take a b).2.1+1<=9223372036854775807:=by
   have hl:=s.mem.lim
   unfold Mem.take at c⊢
   rw[if_neg (by omega)]at c⊢
   by_cases M:o.mem.free=0
   ·rw[if_pos M]at c;exact absurd c (show ¬((2:Int)=0)by decide)
   ·rw[if_neg M]
    have:=(Mem.first_spec s.mem M).1
    show-9223372036854775808<=(o.mem.first:Int)+1/\(o.mem.first:Int)+1<=_
    omega
  simp only[addr_add_mk,Nat.zero_add,Nat.mul_one]
  rw[w64 P]
  refine⟨by omega,by omega,B.1,λH6 K=>?_⟩
  subst K
  refine⟨_,B.2.1.memPtr,?_⟩
  refine HC.mono (pF B.2.1.mem (s.mem.take a b)) ?_
  rintro _ H7 ⟨rfl,N,Q⟩
  refine⟨_,_,rfl,?_⟩
  have e:o.alloc a b q=({mem:=((o.mem.take a b).1.bump (o.mem.take a b).2.1 q).1,cur:=(o.setCur a.toNat b.toNat ((o.mem.take a b).2.1+1)).cur},((o.mem.take a b).1.bump (o.mem.take a b).2.1 q).2.1,((o.mem.take a b).1.bump (o.mem.take a b).2.1 q).2.2):=by
   unfold Sp.alloc;rw[if_neg (λf=>f hm),if_neg A,if_pos c]
  rw[e]at l
  refine l _ _ ⟨rfl,B.2.1.withMem Q (by have:=h.ne;simp;omega) N,?_⟩
  exact(x.trans (B.2.2.mono (λi d _=>by simp at d;simp[d]))).trans (Q.mono (λi d _=>by simp at d;simp[d]))
 ·rw[if_neg c]
  have e:o.alloc a b q=(o,0,(o.mem.take a b).2.2):=by
   unfold Sp.alloc;rw[if_neg (λf=>f hm),if_neg A,if_neg c]
  rw[e]at l
  have O:(o.mem.take a b).1=o.mem:=by
   unfold Mem.take at c⊢
   by_cases S:a<0\/4<a\/b<0\/3<b
   ·rw[if_pos S]
   rw[if_neg S]at c⊢
   by_cases T:o.mem.free=0
   ·rw[if_pos T]
   ·rw[if_neg T]at c;exact absurd rfl c
  rw[O]at p
  exact l _ _ ⟨rfl,F.withMem J D p,x⟩
theorem sf(q:I64 a):
  j4.C a H (λv d=>(¬(8<=a/\a<=1024)/\v=.tuple #[vp none,vi 1]/\Ext H d)\/
   ((8<=a/\a<=1024)/\ ∃b:Blk,v=.tuple #[vp (some ⟨b.sp,0,none⟩),vi 0]/\SpAt d b ⟨Mem.fresh a.toNat,λ_ _=>0⟩/\Ext H d/\H.size<=b.s/\b.s<b.m/\b.m<b.sp)):=by
 refine HC.via λR j=>j4.link ?_
 unfold j4.pt
 refine HC.mono (uq q) ?_
 rintro _ u (⟨hn,rfl,rfl⟩ | ⟨t,e,i,rfl,hm,l,h,f⟩)
 ·refine⟨_,_,rfl,?_⟩
  rw[if_neg (by decide)]
  exact j _ _ (.inl ⟨hn,rfl,Ext.refl _⟩)
 ·refine⟨_,_,rfl,?_⟩
  rw[if_pos rfl]
  intro b w p c
  have r:=hm.lt
  refine j _ _ (.inr ⟨t,⟨0,0,b,e,i⟩,rfl,?_,l.trans (Ext.push' c),h,f,by show e<b;omega⟩)
  refine⟨hm.ext (Ext.push' c),⟨by show b≠e;omega,by show b≠i;omega⟩,_,aH p c,rfl,rfl,λg k x hk=>?_⟩
  have o:g=0\/g=1\/g=2\/g=3\/g=4:=by omega
  have n:k=0\/k=1\/k=2\/k=3:=by omega
  rcases o with rfl | rfl | rfl | rfl | rfl<;>rcases n with rfl | rfl | rfl | rfl<;>rfl
theorem ti(h:8<=i/\i<=1024):SpOK ⟨Mem.fresh i,λ_ _=>0⟩:=⟨sd h,λ_ _=> .inl rfl⟩
structure CdAt (H:zV) (b:Blk) (s:Sp):Prop where
 sp:SpAt H b s
 ne:b.c≠b.sp/\b.c≠b.m/\b.c≠b.s
 c:H[b.c]?=some (.cells #[vp (some ⟨b.sp,0,none⟩)] 44 (0,0))
theorem CdAt.keep{S:List Nat}(h:CdAt H r o)(f:Fr S H v)(e:r.c ∉ S)(a:r.sp ∉ S)(b:r.m ∉ S)(d:r.s ∉ S):CdAt v r o:=
 ⟨h.sp.keep f a b d,h.ne,f.get e h.c⟩
theorem CdAt.ext{b:Blk}{s:Sp}(h:CdAt H b s)(f:Ext H v):CdAt v b s:=h.keep (S:=[]) f.fr (by simp) (by simp) (by simp) (by simp)
theorem CdAt.withSp{S:List Nat}{a:Sp}(h:CdAt H r o)(f:Fr S H v)(b:r.c ∉ S)(d:SpAt v r a):CdAt v r a:=⟨d,h.ne,f.get b h.c⟩
theorem CdAt.cPtr{s:Sp}(h:CdAt H r s):hat H ⟨r.c,0,none⟩=some (vp (some ⟨r.sp,0,none⟩)):=by rw[aP h.c];rfl
theorem CdAt.withMem{m:Mem}{S:List Nat}(h:CdAt H r o)(f:Fr S H v)(b: ∀i,i∈S->i=r.m\/i=r.s)(hm:cX v r.m r.s m):CdAt v r {o with mem:=m}:=
 h.withSp f (λa=>by have:=b _ a;have:=h.ne;omega) (h.sp.withMem f (λa=>by have:=b _ a;have:=h.sp.ne;omega) hm)
theorem lM(h:CdAt H r o):dA.C (some ⟨r.c,0,none⟩) H (λv a=>v=VF/\a=H):=by
 refine HC.via λR b=>dA.link ?_
 unfold dA.pt
 rw[onPtr_some]
 refine⟨_,h.cPtr,?_⟩
 rw[onPtr_some]
 refine⟨_,h.cPtr,_,rfl,_,h.sp.memPtr,?_⟩
 rw[onPtr_some]
 exact b _ _ ⟨rfl,rfl⟩
def iZ(w:Int):Prop:=(w % 8=1\/w % 8=2\/w % 8=3\/w % 8=6)/\w / 8<65536
instance (w:Int):Decidable (iZ w):=by unfold iZ;infer_instance
def Mem.genOf(m:Mem)(w:Int):Int×Bool:=if iZ w/\w % 8≠6 then((if m.has (w / 8 / 64)then(m.seg (w / 8 / 64).toNat).gen else 0),decide (m.has (w / 8 / 64)))else(0,false)
theorem pH(h:CdAt H r o)(w:aG a):eP.C (some ⟨r.c,0,none⟩) a H (λv y=>v=.tuple #[vi (o.mem.genOf a).1,.bool (o.mem.genOf a).2]/\Ext H y):=by
 refine HC.via λR d=>eP.link ?_
 unfold eP.pt zY
 refine HC.mono (jW w) ?_
 rintro _ H1 ⟨rfl,g⟩
 have u: ∃(O:Int) (p:Bool),(if(a % 8=1\/a % 8=2\/a % 8=3\/a % 8=6)/\a / 8<65536 then Value.tuple #[vi (a / 8),VT]else .tuple #[vi 0,VF])=.tuple #[vi O,.bool p]/\((iZ a/\p=true/\O=a / 8)\/(¬iZ a/\p=false)):=by
  by_cases b:(a % 8=1\/a % 8=2\/a % 8=3\/a % 8=6)/\a / 8<65536
  ·rw[if_pos b];exact⟨_,_,rfl,.inl ⟨b,rfl,rfl⟩⟩
  ·rw[if_neg b];exact⟨_,_,rfl,.inr ⟨b,rfl⟩⟩
 obtain⟨O,p,u,I⟩:=u
 refine⟨O,p,u,?_⟩
 refine HC.mono (lM (h.ext g)) ?_
 rintro _ L ⟨rfl,rfl⟩
 refine⟨_,rfl,?_⟩
 rw[if_neg (by decide)]
 rcases I with⟨m,rfl,rfl⟩ | ⟨m,rfl⟩
 case inr=>
  rw[if_neg (by decide)]
  have e:o.mem.genOf a=(0,false):=by unfold Mem.genOf;rw[if_neg (λb=>m b.1)]
  rw[e]at d
  exact d _ _ ⟨rfl,g⟩
 rw[if_pos rfl]
 refine HC.mono (gK w) ?_
 rintro _ M ⟨rfl,q⟩
 refine⟨_,rfl,?_⟩
 by_cases l:a % 8=6
 ·rw[if_pos l]
  have e:o.mem.genOf a=(0,false):=by unfold Mem.genOf;rw[if_neg (λb=>b.2 l)]
  rw[e]at d
  exact d _ _ ⟨rfl,g.trans q⟩
 rw[if_neg l]
 have s:=h.ext (g.trans q)
 have K:a / 8<65536:=m.2
 have x:0<=a / 8:=by have:=w.1;omega
 refine⟨_,rfl,_,s.cPtr,_,rfl,_,s.sp.memPtr,?_⟩
 rw[jR x,w64 (by omega)]
 refine HC.mono (kL s.sp.mem) ?_
 rintro _ z ⟨rfl,D⟩
 have e:o.mem.genOf a=((if o.mem.has (a / 8 / 64)then o.mem.seg (a / 8 / 64).toNat else Seg.none).gen,decide (o.mem.has (a / 8 / 64))):=by
  unfold Mem.genOf;rw[if_pos ⟨m,l⟩];by_cases b:o.mem.has (a / 8 / 64)
  ·rw[if_pos b,if_pos b]
  ·rw[if_neg b,if_neg b];rfl
 rw[e]at d
 generalize (if o.mem.has (a / 8 / 64)then o.mem.seg (a / 8 / 64).toNat else Seg.none)=f at d
 refine⟨_,_,_,_,_,_,_,_,rfl,λN A F j=>?_⟩
 obtain⟨G,J⟩:=boxed (vs:=[vi f.gen,vi f.kind,vi f.n,vi (f.cards 0),vi (f.cards 1),vi (f.cards 2),vi (f.cards 3)]) (H1:=A) (aH F j) rfl rfl
 refine⟨G,λB t=>?_⟩
 obtain⟨k,E⟩:=J B t
 have i:Ext H z:=(g.trans q).trans D
 exact⟨_,by have:=k.1;rw[addr_add_mk]at this;exact this,d _ _ ⟨rfl,E H (i.trans (Ext.push' j)) (by have:=i.size;omega)⟩⟩
def Mem.younger(m:Mem)(sg:Seg)(w mark:Int):Int:=if(m.genOf w).2=true/\sg.kind≠3/\(m.genOf w).1<sg.gen then min mark (m.genOf w).1 else mark
theorem mK{sg:Seg}(h:CdAt H r o)(w:aG a):
  cU.C (some ⟨r.c,0,none⟩) sg.gen sg.kind sg.n (sg.cards 0) (sg.cards 1) (sg.cards 2) (sg.cards 3) a b H (λv q=>v=vi (o.mem.younger sg a b)/\Ext H q):=by
 refine HC.via λR j=>cU.link ?_
 unfold cU.pt
 intro z s u f
 have l:Ext H s:=Ext.push' f
 have t:=aH u f
 refine HC.mono (pH (h.ext l) w) ?_
 rintro _ y ⟨rfl,m⟩
 have d:=l.trans m
 have p:=m.get t
 refine⟨_,_,rfl,?_⟩
 by_cases e:(o.mem.genOf a).2=true
 case neg=>
  rw[if_neg e]
  exact j _ _ ⟨by unfold Mem.younger;rw[if_neg (λg=>e g.1)],d⟩
 rw[if_pos e]
 refine⟨sg.kind,by rw[addr_add_mk,aP p];rfl,?_⟩
 by_cases hk:sg.kind=3
 ·rw[if_pos hk];exact j _ _ ⟨by unfold Mem.younger;rw[if_neg (λg=>g.2.1 hk)],d⟩
 rw[if_neg hk]
 refine⟨sg.gen,by rw[aP p];rfl,?_⟩
 by_cases k:(o.mem.genOf a).1<sg.gen
 ·rw[if_pos k]
  refine j _ _ ⟨?_,d⟩
  have i:(if(o.mem.genOf a).1<b then(o.mem.genOf a).1 else b)=min b (o.mem.genOf a).1:=by
   by_cases hm:(o.mem.genOf a).1<b
   ·rw[if_pos hm];omega
   ·rw[if_neg hm];omega
  have x:o.mem.younger sg a b=min b (o.mem.genOf a).1:=by
   unfold Mem.younger;rw[if_pos (show(o.mem.genOf a).2=true/\sg.kind≠3/\(o.mem.genOf a).1<sg.gen from⟨e,hk,k⟩)]
  rw[i,x]
 ·rw[if_neg k];exact j _ _ ⟨by unfold Mem.younger;rw[if_neg (λg=>k g.2.2)],d⟩
def Mem.store(m:Mem)(a w:Int):Mem×Int:=
 if m.used a then(m.set a w).mark (a / 64) (a % 64 / 16) ((m.set a w).younger ((m.set a w).seg (a / 64).toNat) w (((m.set a w).seg (a / 64).toNat).cards (a % 64 / 16).toNat))
 else(m,18)
theorem Mem.set_has:(d.set a b).has q ↔ d.has q:=by
 unfold Mem.has Mem.set
 rw[Mem.upd_limit,Mem.upd_seg]
 by_cases h:q.toNat=(a / 64).toNat
 ·rw[if_pos h];simp only[Seg.set,h]
 ·rw[if_neg h]
theorem nM(h:CdAt H r o)(V:SpOK o)(O:I64 a)(U:aG b):
  dX.C (some ⟨r.c,0,none⟩) a b H (λv D=>v=vi (o.mem.store a b).2/\CdAt D r {o with mem:=(o.mem.store a b).1}/\Fr [r.m,r.s] H D):=by
 refine HC.via λR q=>dX.link ?_
 unfold dX.pt zY
 refine HC.mono (lM h) ?_
 rintro _ H1 ⟨rfl,rfl⟩
 refine⟨_,rfl,?_⟩
 rw[if_neg (by decide)]
 refine⟨_,rfl,_,h.cPtr,_,rfl,_,h.sp.memPtr,?_⟩
 refine HC.mono (jH h.sp.mem V.mem O.2) ?_
 rintro _ x ⟨rfl,f,M⟩
 refine⟨_,rfl,?_⟩
 have d:Fr [r.m,r.s] H1 x:=M.mono (λi g _=>by simp at g;simp[g])
 by_cases k:o.mem.used a
 case neg=>
  rw[if_neg k]at f
  have e:o.mem.store a b=(o.mem,18):=by unfold Mem.store;rw[if_neg k]
  rw[e]at q
  rw[if_neg k,if_neg (by decide)]
  exact q _ _ ⟨rfl,h.withMem d (by simp) f,d⟩
 rw[if_pos k]at f
 rw[if_pos k,if_pos rfl]
 have t:=h.withMem d (by simp) f
 have F:=k.1
 have s:(o.mem.set a b).has (a / 64):=Mem.set_has.2 k.2.1
 have W:IntKind.wrap .i64 (Int.tdiv a 64)=a / 64:=by rw[jR F,w64 (by omega)]
 have X:IntKind.wrap .i64 (Int.tdiv (Int.tmod a 64) 16)=a % 64 / 16:=by rw[jz F,jR (by omega),w64 (by omega)]
 refine⟨_,t.cPtr,_,rfl,_,t.sp.memPtr,?_⟩
 rw[W,X]
 refine HC.mono (kL t.sp.mem) ?_
 rintro _ Y ⟨rfl,G⟩
 rw[if_pos s]
 have y:o.mem.store a b=(o.mem.set a b).mark (a / 64) (a % 64 / 16) ((o.mem.set a b).younger ((o.mem.set a b).seg (a / 64).toNat) b (((o.mem.set a b).seg (a / 64).toNat).cards (a % 64 / 16).toNat)):=by unfold Mem.store;rw[if_pos k]
 rw[y]at q
 generalize T:(o.mem.set a b).seg (a / 64).toNat=sg at q
 refine⟨_,_,_,_,_,_,_,_,rfl,λb1 L P p=>?_⟩
 obtain⟨Q,S⟩:=boxed (vs:=[vi sg.gen,vi sg.kind,vi sg.n,vi (sg.cards 0),vi (sg.cards 1),vi (sg.cards 2),vi (sg.cards 3)]) (H1:=L) (aH P p) rfl rfl
 refine⟨Q,λE z=>?_⟩
 obtain⟨j,N⟩:=S E z
 have l:Ext x E:=N x (G.trans (Ext.push' p)) (by have:=G.size;omega)
 have u:=t.ext l
 refine⟨_,u.cPtr,_,rfl,_,u.sp.memPtr,_,_,_,_,_,_,_,j,⟨by omega,by omega⟩,sg.cards (a % 64 / 16).toNat,?_,?_⟩
 ·have A:(a % 64 / 16).toNat=0\/(a % 64 / 16).toNat=1\/(a % 64 / 16).toNat=2\/(a % 64 / 16).toNat=3:=by omega
  simp only[addr_add_mk,Nat.mul_one,Nat.zero_add]
  have K:=fD j (3+(a % 64 / 16).toNat)
  simp only[addr_add_mk,Nat.zero_add]at K
  refine K _ ?_
  rcases A with e | e | e | e<;>rw[e]<;>rfl
 refine HC.mono (mK (sg:=sg) u U) ?_
 rintro _ Z ⟨rfl,I⟩
 have w:=u.ext I
 refine⟨_,rfl,⟨by rw[addr_add_mk];exact w.cPtr,trivial⟩,⟨by rw[addr_add_mk];exact w.sp.memPtr,trivial⟩,?_⟩
 refine HC.mono (pG w.sp.mem) ?_
 rintro _ H7 ⟨rfl,B,J⟩
 refine⟨_,rfl,q _ _ ⟨rfl,?_,?_⟩⟩
 ·exact w.withMem (J.mono (S':=[r.m,r.s]) (λi g _=>by simp at g;simp[g])) (by simp) B
 ·exact(d.trans (l.trans I).fr).trans (J.mono (λi g _=>by simp at g;simp[g]))
theorem tj(r:I64 a):
  kF.C a H (λv g=>(¬(8<=a/\a<=1024)/\v=.tuple #[vp none,vi 1]/\Ext H g)\/
   ((8<=a/\a<=1024)/\ ∃b:Blk,v=.tuple #[vp (some ⟨b.c,0,none⟩),vi 0]/\CdAt g b ⟨Mem.fresh a.toNat,λ_ _=>0⟩/\Ext H g/\H.size<=b.s/\b.s<b.m/\b.m<b.sp/\b.sp<b.c)):=by
 refine HC.via λR l=>kF.link ?_
 unfold kF.pt
 refine HC.mono (sf r) ?_
 rintro _ o (⟨hn,rfl,h⟩ | ⟨u,b,rfl,n,h,j,i,k⟩)
 ·refine⟨_,_,rfl,?_⟩
  rw[if_neg (by decide)]
  exact l _ _ (.inl ⟨hn,rfl,h⟩)
 ·refine⟨_,_,rfl,?_⟩
  rw[if_pos rfl]
  intro f w p d
  have t:b.sp<o.size:=by obtain⟨x,q,_⟩:=n.sp;exact aW q
  have e:=n.ext (Ext.push' d)
  refine l _ _ (.inr ⟨u,{b with c:=f},rfl,⟨⟨e.mem,e.ne,e.sp⟩,⟨by show f≠b.sp;omega,by show f≠b.m;omega,by show f≠b.s;omega⟩,aH p d⟩,h.trans (Ext.push' d),j,i,k,by show b.sp<f;omega⟩)
structure Hp where
 sp:Sp
 sy:Value
 en:Value
 ep:Int
variable{k:Option (Blk×Hp)}{A:Hp}
structure HpAt (H:zV) (b:Blk) (x:Hp):Prop where
 cd:CdAt H b x.sp
 ne:b.h≠b.c/\b.h≠b.sp/\b.h≠b.m/\b.h≠b.s
 h:H[b.h]?=some (.cells #[vp (some ⟨b.c,0,none⟩),x.sy,x.en,vu x.ep] 37 (0,0))
theorem HpAt.keep{S:List Nat}(h:HpAt H r A)(f:Fr S H v)(b: ∀i,i∈S->i ∉ r.all):HpAt v r A:=
 ⟨h.cd.keep f (λa=>b _ a (by simp[Blk.all])) (λa=>b _ a (by simp[Blk.all])) (λa=>b _ a (by simp[Blk.all])) (λa=>b _ a (by simp[Blk.all])),h.ne,f.get (λa=>b _ a (by simp[Blk.all])) h.h⟩
theorem HpAt.ext{b:Blk}(h:HpAt H b A)(f:Ext H v):HpAt v b A:=h.keep (S:=[]) f.fr (by simp)
theorem HpAt.withCd{S:List Nat}(h:HpAt H r A)(f:Fr S H v)(a: ∀i,i∈S->i=r.sp\/i=r.m\/i=r.s)(b:CdAt v r o):HpAt v r {A with sp:=o}:=
 ⟨b,h.ne,f.get (λc=>by have:=a _ c;have:=h.ne;omega) h.h⟩
theorem HpAt.withSp{S:List Nat}(h:HpAt H r A)(f:Fr S H v)(a: ∀i,i∈S->i=r.sp\/i=r.m\/i=r.s)(b:SpAt v r o):HpAt v r {A with sp:=o}:=
 h.withCd f a (h.cd.withSp f (λc=>by have:=a _ c;have:=h.cd.ne;omega) b)
theorem HpAt.withMem{S:List Nat}{m:Mem}(h:HpAt H r A)(f:Fr S H v)(a: ∀i,i∈S->i=r.m\/i=r.s)(b:cX v r.m r.s m):HpAt v r {A with sp:={A.sp with mem:=m}}:=
 h.withCd f (λi c=> .inr (a i c)) (h.cd.withMem f a b)
theorem HpAt.hPtr(h:HpAt H r A):hat H ⟨r.h,0,none⟩=some (vp (some ⟨r.c,0,none⟩)):=by rw[aP h.h];rfl
theorem HpAt.lt{b:Blk}(h:HpAt H b A): ∀i,i∈b.all->i<H.size:=by
 intro i d
 have f:=aW h.h
 have g:=aW h.cd.c
 obtain⟨e,a,_⟩:=h.cd.sp.sp
 have j:=aW a
 have k:=h.cd.sp.mem.lt
 simp[Blk.all]at d
 omega
theorem tupb{p q:Bool}(h:p=q):Value.tuple #[vi a,.bool p]=.tuple #[vi a,.bool q]:=by rw[h]
inductive View (H:zV):zW->Option (Blk×Hp)->Prop
 | nobody:View H none none
 | empty {a:Addr} (h:hat H a=some (vp none)):View H (some a) none
 | real {b:Blk} {x:Hp} (h:HpAt H b x) (ok:SpOK x.sp):View H (some ⟨b.h,0,none⟩) (some (b,x))
def mof:Option (Blk×Hp)->Mem
 | none=>Mem.fresh 0
 | some (_,x)=>x.sp.mem
theorem View.ext(V:View H j k)(e:Ext H v):View v j k:=by
 cases V with
 | nobody=>exact .nobody
 | empty h=>exact .empty (e.hat h)
 | real h a=>exact .real (h.ext e) a
theorem nk: ¬(mof none).has a:=λh=>by have:=h.1;have:a< ((0:Nat):Int):=h.2.1;omega
theorem View.word(V:View H j k)(a:Int):aG ((mof k).get a):=by
 cases V with
 | nobody=>exact(by decide:aG 0)
 | empty h=>exact(by decide:aG 0)
 | real h b=>exact(b.mem.seg _).words _
theorem nu(V:View H j k):fL.C j H (λv b=>v=.bool k.isNone/\b=H):=by
 refine HC.via λR a=>fL.link ?_
 unfold fL.pt
 cases V with
 | nobody=>rw[onPtr_none];exact a _ _ ⟨rfl,rfl⟩
 | empty h=>rw[onPtr_some];refine⟨_,h,?_⟩;rw[onPtr_none];exact a _ _ ⟨rfl,rfl⟩
 | real h c=>rw[onPtr_some];refine⟨_,h.hPtr,?_⟩;rw[onPtr_some];exact a _ _ ⟨rfl,rfl⟩
def Mem.atW(m:Mem)(w tag kind:Int):Prop:=iZ w/\w % 8=tag/\m.has (w / 8 / 64)/\(m.seg (w / 8 / 64).toNat).kind=kind/\w / 8 % 64< (m.seg (w / 8 / 64).toNat).n
instance (m:Mem) (w tag kind:Int):Decidable (m.atW w tag kind):=by unfold Mem.atW;infer_instance
theorem Mem.atW.used{m:Mem}(h:m.atW a b q)(c:aG a):m.used (a / 8):=⟨by have:=c.1;omega,h.2.2.1,h.2.2.2.2⟩
theorem pI(V:View H j k)(P:aG a):
  iE.C j a b q H (λv w=> ∃a1:Int,v=.tuple #[vi a1,.bool (decide ((mof k).atW a b q))]/\((mof k).atW a b q->a1=a / 8)/\Ext H w):=by
 refine HC.via λR L=>iE.link ?_
 unfold iE.pt zY
 refine HC.mono (jW P) ?_
 rintro _ H1 ⟨rfl,z⟩
 have u: ∃(a1:Int) (p:Bool),(if(a % 8=1\/a % 8=2\/a % 8=3\/a % 8=6)/\a / 8<65536 then Value.tuple #[vi (a / 8),VT]else .tuple #[vi 0,VF])=.tuple #[vi a1,.bool p]/\((iZ a/\p=true/\a1=a / 8)\/(¬iZ a/\p=false)):=by
  by_cases G:(a % 8=1\/a % 8=2\/a % 8=3\/a % 8=6)/\a / 8<65536
  ·rw[if_pos G];exact⟨_,_,rfl,.inl ⟨G,rfl,rfl⟩⟩
  ·rw[if_neg G];exact⟨_,_,rfl,.inr ⟨G,rfl⟩⟩
 obtain⟨a1,p,u,U⟩:=u
 refine⟨a1,p,u,?_⟩
 refine HC.mono (nu (V.ext z)) ?_
 rintro _ X ⟨rfl,rfl⟩
 refine⟨_,rfl,?_⟩
 have no: ∀(a1:Int) w,¬(mof k).atW a b q->Ext H w->R (.tuple #[vi a1,VF]) w:=λa1 w hn e=>L _ _ ⟨a1,by rw[zQ hn],λh=>absurd h hn,e⟩
 cases V with
 | nobody=>rw[if_pos (show(none:Option (Blk×Hp)).isNone=true from rfl)];exact no _ _ (λh=>nk h.2.2.1) z
 | empty h=>rw[if_pos (show(none:Option (Blk×Hp)).isNone=true from rfl)];exact no _ _ (λh=>nk h.2.2.1) z
 | @real a2 x h ok=>
  rw[if_neg (show ¬(some (a2,x)).isNone=true from Bool.false_ne_true)]
  rcases U with⟨F,rfl,rfl⟩ | ⟨F,rfl⟩
  case inr=>rw[if_neg (by decide)];exact no _ _ (λh=>F h.1) z
  rw[if_pos rfl]
  refine HC.mono (gK P) ?_
  rintro _ Y ⟨rfl,T⟩
  refine⟨_,rfl,?_⟩
  have s:=z.trans T
  by_cases I:a % 8=b
  case neg=>rw[if_neg I];exact no _ _ (λh=>I h.2.1) s
  rw[if_pos I]
  have E:=h.ext s
  have W:a / 8<65536:=F.2
  have B:0<=a / 8:=by have:=P.1;omega
  refine⟨_,rfl,_,E.hPtr,_,rfl,_,E.cd.cPtr,_,rfl,_,E.cd.sp.memPtr,?_⟩
  rw[jR B,w64 (n:=a / 8 / 64) (by omega),jz B]
  refine HC.mono (kL E.cd.sp.mem) ?_
  rintro _ Z ⟨rfl,Q⟩
  show∃a1 a2 c d e f g a3,_/\_
  have hm:mof (some (a2,x))=x.sp.mem:=rfl
  rw[hm]at no L
  by_cases i:x.sp.mem.has (a / 8 / 64)
  ·rw[if_pos i,zX i]
   generalize A:x.sp.mem.seg (a / 8 / 64).toNat=l at*
   refine⟨_,_,_,_,_,_,_,_,rfl,λS J M o=>?_⟩
   obtain⟨N,O⟩:=boxed (vs:=[vi l.gen,vi l.kind,vi l.n,vi (l.cards 0),vi (l.cards 1),vi (l.cards 2),vi (l.cards 3)]) (H1:=J) (aH M o) rfl rfl
   refine⟨N,λy t=>?_⟩
   obtain⟨r,K⟩:=O y t
   have m:=s.trans Q
   have D:Ext H y:=K H (m.trans (Ext.push' o)) (by have:=m.size;omega)
   rw[if_pos rfl]
   refine⟨l.kind,r.2.1,?_⟩
   by_cases hk:l.kind=q
   ·rw[if_pos hk]
    refine⟨l.n,r.2.2.1,L _ _ ⟨_,?_,λ_=>rfl,D⟩⟩
    refine tupb ?_
    rw[decide_eq_decide]
    unfold Mem.atW
    rw[A]
    exact⟨λh=>⟨F,I,i,hk,h⟩,λh=>h.2.2.2.2⟩
   ·rw[if_neg hk]
    exact no _ _ (λh=>hk (by have:=h.2.2.2.1;rw[A]at this;exact this)) D
  ·rw[if_neg i,zQ i]
   generalize Seg.none=l
   refine⟨_,_,_,_,_,_,_,_,rfl,λS J M o=>?_⟩
   obtain⟨N,O⟩:=boxed (vs:=[vi l.gen,vi l.kind,vi l.n,vi (l.cards 0),vi (l.cards 1),vi (l.cards 2),vi (l.cards 3)]) (H1:=J) (aH M o) rfl rfl
   refine⟨N,λy t=>?_⟩
   obtain⟨r,K⟩:=O y t
   have m:=s.trans Q
   have D:Ext H y:=K H (m.trans (Ext.push' o)) (by have:=m.size;omega)
   rw[if_neg (by decide)]
   exact no _ _ (λh=>i h.2.2.1) D
def kt(x:Int):Prop:=x % 8=5/\(1<=x / 8 % 32/\x / 8 % 32<=13/\x / 256 % 256<=62)
instance (x:Int):Decidable (kt x):=by unfold kt;infer_instance
def hk(x:Int):Int:=x / 8 % 32
def hn(x:Int):Int:=x / 256 % 256
def hm(x:Int):Int:=x / 65536
def rawK(k:Int):Int:=if k=2\/k=3 then 3 else 2
theorem qG:kS.C a H (λv c=>v=vi (rawK a)/\c=H):=by
 refine HC.via λR b=>kS.link ?_
 unfold kS.pt
 by_cases h:a=2\/a=3
 ·rw[if_pos (by simpa using h)];exact b _ _ ⟨by unfold rawK;rw[if_pos h],rfl⟩
 ·rw[if_neg (by simpa using h)];exact b _ _ ⟨by unfold rawK;rw[if_neg h],rfl⟩
def Mem.isObj(m:Mem)(w:Int):Prop:=m.atW w 3 (rawK (hk (m.get (w / 8))))/\kt (m.get (w / 8))/\w / 8 % 64+hn (m.get (w / 8))< (m.seg (w / 8 / 64).toNat).n
instance (m:Mem) (w:Int):Decidable (m.isObj w):=by unfold Mem.isObj;infer_instance
theorem rn(V:View H j k)(X:aG a):
  cI.C j a H (λv g=>v=(if(mof k).isObj a then .tuple #[vi (a / 8),vi (hk ((mof k).get (a / 8))),vi (hn ((mof k).get (a / 8))),vu (hm ((mof k).get (a / 8))),VT]
   else .tuple #[vi 0,vi 0,vi 0,vu 0,VF])/\Ext H g):=by
 refine HC.via λR hR=>cI.link ?_
 unfold cI.pt zY
 refine⟨λi g=>(0<=i/\i<=2)/\Ext H g/\(1<=i-> ¬((mof k).isObj a/\rawK (hk ((mof k).get (a / 8)))=2))/\(2<=i-> ¬((mof k).isObj a/\rawK (hk ((mof k).get (a / 8)))=3)),λi _=>(2-i).toNat,⟨by omega,Ext.refl _,λh=>by omega,λh=>by omega⟩,?_⟩
 rintro i H1 ⟨hi,O,n2,n3⟩
 by_cases s:i<2
 case neg=>
  rw[if_neg s]
  refine hR _ _ ⟨?_,O⟩
  rw[if_neg]
  intro hO
  by_cases e:rawK (hk ((mof k).get (a / 8)))=2
  ·exact n2 (by omega) ⟨hO,e⟩
  ·refine n3 (by omega) ⟨hO,?_⟩
   unfold rawK at e⊢
   by_cases h:hk ((mof k).get (a / 8))=2\/hk ((mof k).get (a / 8))=3
   ·rw[if_pos h]
   ·rw[if_neg h]at e;exact absurd rfl e
 rw[if_pos s]
 have Y: ∃x:Int,(#[vi 2,vi 3]:Array Value)[i.toNat]?=some (vi x)/\((i=0/\x=2)\/(i=1/\x=3)):=by
  have:i=0\/i=1:=by omega
  rcases this with rfl | rfl
  ·exact⟨2,rfl,.inl ⟨rfl,rfl⟩⟩
  ·exact⟨3,rfl,.inr ⟨rfl,rfl⟩⟩
 obtain⟨x,Y,E⟩:=Y
 refine⟨x,⟨⟨hi.1,s⟩,Y⟩,?_⟩
 have V1:=V.ext O
 rw[w64 (n:=i+1) (by omega)]
 have next: ∀g,Ext H g-> ¬((mof k).isObj a/\rawK (hk ((mof k).get (a / 8)))=x)->((0<=i+1/\i+1<=2)/\Ext H g/\(1<=i+1-> ¬((mof k).isObj a/\rawK (hk ((mof k).get (a / 8)))=2))/\(2<=i+1-> ¬((mof k).isObj a/\rawK (hk ((mof k).get (a / 8)))=3)))/\(2-(i+1)).toNat< (2-i).toNat:=by
  intro g e' F
  refine⟨⟨by omega,e',λ_=>?_,λw=>?_⟩,by omega⟩
  ·rcases E with⟨rfl,rfl⟩ | ⟨rfl,rfl⟩
   ·exact F
   ·exact n2 (by omega)
  ·rcases E with⟨rfl,rfl⟩ | ⟨rfl,rfl⟩
   ·omega
   ·exact F
 refine HC.mono (pI V1 X) ?_
 rintro _ H2 ⟨ax,rfl,ha,e2⟩
 refine⟨_,_,rfl,?_⟩
 have l:=O.trans e2
 by_cases c:(mof k).atW a 3 x
 case neg=>
  rw[if_neg (by simpa using c)]
  exact next _ l (λh=>c (by rw[<-h.2];exact h.1.1))
 rw[if_pos (zX c),ha c]
 have J:0<=a / 8:=by have:=X.1;omega
 have al:a / 8<65536:=c.1.2
 cases V with
 | nobody=>exact absurd c.2.2.1 nk
 | empty h=>exact absurd c.2.2.1 nk
 | @real b y h ok=>
  have U:mof (some (b,y))=y.sp.mem:=rfl
  rw[U]at*
  have w:=h.ext l
  have hu:y.sp.mem.used (a / 8):=c.used X
  refine⟨_,rfl,_,w.hPtr,_,rfl,_,w.cd.cPtr,_,rfl,_,w.cd.sp.memPtr,?_⟩
  refine HC.mono (jX w.cd.sp.mem ok.mem (by omega)) ?_
  rintro _ H3 ⟨rfl,rfl⟩
  rw[if_pos hu]
  refine⟨_,_,rfl,?_⟩
  have Z:aG (y.sp.mem.get (a / 8)):=(ok.mem.seg _).words _
  refine HC.mono (sc Z) ?_
  rintro _ H4 ⟨rfl,e4⟩
  have u: ∃(p q r:Int) (d:Bool),(if y.sp.mem.get (a / 8) % 8=5/\(1<=y.sp.mem.get (a / 8) / 8 % 32/\y.sp.mem.get (a / 8) / 8 % 32<=13/\y.sp.mem.get (a / 8) / 256 % 256<=62)then Value.tuple #[vi (y.sp.mem.get (a / 8) / 8 % 32),vi (y.sp.mem.get (a / 8) / 256 % 256),vu (y.sp.mem.get (a / 8) / 65536),VT]else .tuple #[vi 0,vi 0,vu 0,VF])=.tuple #[vi p,vi q,vu r,.bool d]/\
    ((kt (y.sp.mem.get (a / 8))/\d=true/\p=hk (y.sp.mem.get (a / 8))/\q=hn (y.sp.mem.get (a / 8))/\r=hm (y.sp.mem.get (a / 8)))\/(¬kt (y.sp.mem.get (a / 8))/\d=false)):=by
   by_cases N:kt (y.sp.mem.get (a / 8))
   ·have o:y.sp.mem.get (a / 8) % 8=5/\(1<=y.sp.mem.get (a / 8) / 8 % 32/\y.sp.mem.get (a / 8) / 8 % 32<=13/\y.sp.mem.get (a / 8) / 256 % 256<=62):=N
    rw[if_pos o];exact⟨_,_,_,_,rfl,.inl ⟨N,rfl,rfl,rfl,rfl⟩⟩
   ·have o: ¬(y.sp.mem.get (a / 8) % 8=5/\(1<=y.sp.mem.get (a / 8) / 8 % 32/\y.sp.mem.get (a / 8) / 8 % 32<=13/\y.sp.mem.get (a / 8) / 256 % 256<=62)):=N
    rw[if_neg o];exact⟨_,_,_,_,rfl,.inr ⟨N,rfl⟩⟩
  obtain⟨p,q,r,d,u,Q⟩:=u
  refine⟨p,q,r,d,u,?_⟩
  have L:=w.ext e4
  refine⟨_,L.hPtr,_,rfl,_,L.cd.cPtr,_,rfl,_,L.cd.sp.memPtr,?_⟩
  rw[jR J,w64 (n:=a / 8 / 64) (by omega),jz J]
  refine HC.mono (kL L.cd.sp.mem) ?_
  rintro _ H5 ⟨rfl,e5⟩
  have D:y.sp.mem.has (a / 8 / 64):=c.2.2.1
  rw[if_pos D]
  have W:=(ok.mem.seg (a / 8 / 64).toNat).n
  have S:=c.2.2.2.1
  have T:=c.2.2.2.2
  generalize I:y.sp.mem.seg (a / 8 / 64).toNat=f at W S T⊢
  refine⟨_,_,_,_,_,_,_,_,rfl,λb1 H6 hb A=>?_⟩
  obtain⟨hc,hs⟩:=boxed (vs:=[vi f.gen,vi f.kind,vi f.n,vi (f.cards 0),vi (f.cards 1),vi (f.cards 2),vi (f.cards 3)]) (H1:=H6) (aH hb A) rfl rfl
  refine⟨hc,λH7 P=>?_⟩
  obtain⟨G,hE⟩:=hs H7 P
  have z:=(l.trans e4).trans e5
  have K:Ext H H7:=hE H (z.trans (Ext.push' A)) (by have:=z.size;omega)
  rcases Q with⟨t,rfl,rfl,rfl,rfl⟩ | ⟨t,rfl⟩
  case inr=>
   rw[if_neg (by decide)]
   exact next _ K (λh=>t h.1.2.1)
  rw[if_pos rfl]
  refine HC.mono qG ?_
  rintro _ H8 ⟨rfl,rfl⟩
  refine⟨_,rfl,?_⟩
  by_cases e:rawK (hk (y.sp.mem.get (a / 8)))=x
  case neg=>rw[if_neg e];exact next _ K (λh=>e h.2)
  rw[if_pos e]
  refine⟨f.n,G.2.2.1,?_⟩
  have ai:0<=hn (y.sp.mem.get (a / 8))/\hn (y.sp.mem.get (a / 8))<=255:=by unfold hn;omega
  rw[w64 (n:=a / 8 % 64+hn (y.sp.mem.get (a / 8))) (by omega)]
  by_cases M:a / 8 % 64+hn (y.sp.mem.get (a / 8))<f.n
  ·rw[if_pos M]
   refine hR _ _ ⟨?_,K⟩
   have B:y.sp.mem.isObj a:=⟨by rw[e];exact c,t,by rw[I];exact M⟩
   have m:(mof (some (b,y))).isObj a:=B
   rw[if_pos m];rfl
  ·rw[if_neg M]
   exact next _ K (λh=>M (by have h3:a / 8 % 64+hn (y.sp.mem.get (a / 8))< (y.sp.mem.seg (a / 8 / 64).toNat).n:=h.1.2.2;rw[I]at h3;exact h3))
def Mem.typ(m:Mem)(w:Int):Int:=if m.isObj w then hk (m.get (w / 8))else 0
def Mem.len(m:Mem)(w:Int):Int:=if m.isObj w then hn (m.get (w / 8))else 0
def Mem.more(m:Mem)(w:Int):Int:=if m.isObj w then hm (m.get (w / 8))else 0
theorem kj(V:View H j k)(c:aG a):
  cI.C j a H (λv b=>v=.tuple #[vi (if(mof k).isObj a then a / 8 else 0),vi ((mof k).typ a),vi ((mof k).len a),vu ((mof k).more a),.bool (decide ((mof k).isObj a))]/\Ext H b):=by
 refine HC.mono (rn V c) ?_
 rintro _ d ⟨rfl,e⟩
 refine⟨?_,e⟩
 unfold Mem.typ Mem.len Mem.more
 by_cases h:(mof k).isObj a
 ·simp only[if_pos h,zX h]
 ·simp only[if_neg h,zQ h]
theorem jY(V:View H j k)(e:aG a):
  cP.C j a H (λv b=>v=vi ((mof k).typ a)/\Ext H b):=by
 refine HC.via λR d=>cP.link ?_
 unfold cP.pt
 refine HC.mono (kj V e) ?_
 rintro _ f ⟨rfl,c⟩
 exact⟨_,_,_,_,_,rfl,d _ _ ⟨rfl,c⟩⟩
theorem oq(V:View H j k)(e:aG a):
  cY.C j a H (λv b=>v=vi ((mof k).len a)/\Ext H b):=by
 refine HC.via λR d=>cY.link ?_
 unfold cY.pt
 refine HC.mono (kj V e) ?_
 rintro _ f ⟨rfl,c⟩
 exact⟨_,_,_,_,_,rfl,d _ _ ⟨rfl,c⟩⟩
theorem mf(V:View H j k)(e:aG a):
  eS.C j a H (λv b=>v=vu ((mof k).more a)/\Ext H b):=by
 refine HC.via λR d=>eS.link ?_
 unfold eS.pt
 refine HC.mono (kj V e) ?_
 rintro _ f ⟨rfl,c⟩
 exact⟨_,_,_,_,_,rfl,d _ _ ⟨rfl,c⟩⟩
def Mem.fieldE(m:Mem)(w kind i:Int):Int:=if ¬m.isObj w\/m.typ w≠kind then 3 else if i<0\/m.len w<=i then 4 else 0
theorem Mem.isObj.len_lt(h:d.isObj a):0<=hn (d.get (a / 8))/\hn (d.get (a / 8))<=62:=by
 have:=h.2.1;unfold kt at this;unfold hn;omega
theorem oL(V:View H j k)(l:aG a)(t:I64 q):
  fK.C j a b q H (λv m=>v=.tuple #[vi (if(mof k).fieldE a b q=0 then a / 8+1+q else 0),vi ((mof k).fieldE a b q)]/\Ext H m):=by
 refine HC.via λR d=>fK.link ?_
 unfold fK.pt zY
 refine HC.mono (kj V l) ?_
 rintro _ s ⟨rfl,i⟩
 refine⟨_,_,_,_,_,rfl,?_⟩
 by_cases c: ¬(mof k).isObj a\/(mof k).typ a≠b
 ·rw[if_pos (by simpa using c)]
  have e:(mof k).fieldE a b q=3:=by unfold Mem.fieldE;rw[if_pos c]
  rw[e]at d
  exact d _ _ ⟨rfl,i⟩
 rw[if_neg (by simpa using c)]
 by_cases f:q<0\/(mof k).len a<=q
 ·rw[if_pos (by simpa using f)]
  have e:(mof k).fieldE a b q=4:=by unfold Mem.fieldE;rw[if_neg c,if_pos f]
  rw[e]at d
  exact d _ _ ⟨rfl,i⟩
 rw[if_neg (by simpa using f)]
 have e:(mof k).fieldE a b q=0:=by unfold Mem.fieldE;rw[if_neg c,if_neg f]
 rw[e]at d
 have g:(mof k).isObj a:=Classical.byContradiction λh=>c (.inl h)
 have r:a / 8<65536:=g.1.1.2
 have p:0<=a / 8:=by have:=l.1;omega
 have u:=g.len_lt
 have o:(mof k).len a=hn ((mof k).get (a / 8)):=by unfold Mem.len;rw[if_pos g]
 rw[if_pos g,w64 (n:=a / 8+1) (by omega),w64 (n:=a / 8+1+q) (by omega)]
 exact d _ _ ⟨rfl,i⟩
theorem Mem.isObj.used{m:Mem}(h:m.isObj a)(g:aG a)(d:(m.seg (a / 8 / 64).toNat).n<=64)(k:0<=b/\b<m.len a):m.used (a / 8+1+b):=by
 have i:0<=a / 8:=by have:=g.1;omega
 have f:m.len a=hn (m.get (a / 8)):=by unfold Mem.len;rw[if_pos h]
 have j:=h.2.2
 have c:(a / 8+1+b) / 64=a / 8 / 64:=by omega
 have e:(a / 8+1+b) % 64=a / 8 % 64+1+b:=by omega
 exact⟨by omega,by rw[c];exact h.1.2.2.1,by rw[c,e];omega⟩
theorem View.n64(V:View H j k)(b:Nat):((mof k).seg b).n<=64:=by
 cases V with
 | nobody=>exact(by decide:(0:Int)<=64)
 | empty h=>exact(by decide:(0:Int)<=64)
 | real h a=>exact(a.mem.seg b).n.2
theorem Mem.fieldE_0(h:d.fieldE a b q=0):d.isObj a/\d.typ a=b/\0<=q/\q<d.len a:=by
 unfold Mem.fieldE at h
 by_cases c: ¬d.isObj a\/d.typ a≠b
 ·rw[if_pos c]at h;cases h
 rw[if_neg c]at h
 by_cases e:q<0\/d.len a<=q
 ·rw[if_pos e]at h;cases h
 ·exact⟨Classical.byContradiction λh=>c (.inl h),Classical.byContradiction λh=>c (.inr h),by omega,by omega⟩
theorem ur(V:View H j k)(o:aG a)(r:I64 q):
  eG.C j a b q H (λv p=>v=.tuple #[vu (if(mof k).fieldE a b q=0 then(mof k).get (a / 8+1+q)else 0),vi ((mof k).fieldE a b q)]/\Ext H p):=by
 refine HC.via λR n=>eG.link ?_
 unfold eG.pt
 refine HC.mono (oL V o r) ?_
 rintro _ w ⟨rfl,g⟩
 refine⟨_,_,rfl,?_⟩
 by_cases c:(mof k).fieldE a b q=0
 case neg=>rw[if_neg c];exact n _ _ ⟨by rw[if_neg c],g⟩
 rw[if_pos c,if_pos c]
 obtain⟨d,_,i,e⟩:=Mem.fieldE_0 c
 have s:=d.used o (V.n64 _) ⟨i,e⟩
 cases V with
 | nobody=>exact absurd d.1.2.2.1 nk
 | empty h=>exact absurd d.1.2.2.1 nk
 | @real A x h u=>
  have f:=h.ext g
  refine⟨_,rfl,_,f.hPtr,_,rfl,_,f.cd.cPtr,_,rfl,_,f.cd.sp.memPtr,?_⟩
  have z:=d.len_lt
  have t:a / 8<65536:=d.1.1.2
  have l:(mof (some _)).len a=_:=if_pos d
  refine HC.mono (jX f.cd.sp.mem u.mem (by rw[l]at e;omega)) ?_
  rintro _ y ⟨rfl,rfl⟩
  have m:x.sp.mem.used (a / 8+1+q):=s
  rw[if_pos m]
  refine⟨_,_,rfl,n _ _ ⟨?_,g⟩⟩
  rw[if_pos c,c];rfl
def Hp.setMem(x:Hp)(m:Mem):Hp:={x with sp:={x.sp with mem:=m}}
theorem SpOK.withMem(i:SpOK o){m:Mem}(hm:bJ m)(f: ∀k,o.mem.has k->m.has k)(a: ∀k,(m.seg k).gen=(o.mem.seg k).gen/\(m.seg k).kind=(o.mem.seg k).kind):SpOK {o with mem:=m}:=
 ⟨hm,λg k=>by
  rcases i.cur g k with h | ⟨b,c,d,e⟩
  ·exact .inl h
  ·exact .inr ⟨b,f _ c,by rw[<-d];exact(a _).1,by rw[<-e];exact(a _).2⟩⟩
theorem Mem.mark_has{j:Int}:(d.mark a b q).1.has j ↔ d.has j:=by
 unfold Mem.mark
 split
 ·exact Iff.rfl
 split
 ·exact Iff.rfl
 ·unfold Mem.has
  show(0<=j/\j< (d.limit:Int)/\((d.upd a.toNat ((d.seg a.toNat).mark b.toNat q)).seg j.toNat).taken≠0) ↔ _
  rw[Mem.upd_seg]
  by_cases h:j.toNat=a.toNat
  ·rw[if_pos h,h];rfl
  ·rw[if_neg h]
theorem Mem.mark_seg{m:Mem}{k c v:Int}(j:Nat):((m.mark k c v).1.seg j).gen=(m.seg j).gen/\((m.mark k c v).1.seg j).kind=(m.seg j).kind/\((m.mark k c v).1.seg j).n=(m.seg j).n/\((m.mark k c v).1.seg j).words=(m.seg j).words:=by
 unfold Mem.mark
 split
 ·exact⟨rfl,rfl,rfl,rfl⟩
 split
 ·exact⟨rfl,rfl,rfl,rfl⟩
 ·show((m.upd k.toNat ((m.seg k.toNat).mark c.toNat v)).seg j).gen=_/\((m.upd k.toNat ((m.seg k.toNat).mark c.toNat v)).seg j).kind=_/\((m.upd k.toNat ((m.seg k.toNat).mark c.toNat v)).seg j).n=_/\((m.upd k.toNat ((m.seg k.toNat).mark c.toNat v)).seg j).words=_
  rw[Mem.upd_seg]
  by_cases h:j=k.toNat
  ·rw[if_pos h,h];exact⟨rfl,rfl,rfl,rfl⟩
  ·rw[if_neg h];exact⟨rfl,rfl,rfl,rfl⟩
theorem Mem.set_seg{m:Mem}{a w:Int}(j:Nat):((m.set a w).seg j).gen=(m.seg j).gen/\((m.set a w).seg j).kind=(m.seg j).kind/\((m.set a w).seg j).n=(m.seg j).n:=by
 unfold Mem.set
 rw[Mem.upd_seg]
 by_cases h:j=(a / 64).toNat
 ·rw[if_pos h,h];exact⟨rfl,rfl,rfl⟩
 ·rw[if_neg h];exact⟨rfl,rfl,rfl⟩
theorem bJ.store{m:Mem}(b:bJ m)(a:Int){w:Int}(c:aG w):bJ (m.store a w).1:=by
 unfold Mem.store
 split
 ·exact(b.set a c).mark _ _ _
 ·exact b
theorem Mem.store_seg{m:Mem}{a w:Int}(j:Nat):((m.store a w).1.seg j).gen=(m.seg j).gen/\((m.store a w).1.seg j).kind=(m.seg j).kind/\((m.store a w).1.seg j).n=(m.seg j).n:=by
 unfold Mem.store
 split
 ·have b:=Mem.mark_seg (m:=m.set a w) (k:=a / 64) (c:=a % 64 / 16) (v:=(m.set a w).younger ((m.set a w).seg (a / 64).toNat) w (((m.set a w).seg (a / 64).toNat).cards (a % 64 / 16).toNat)) j
  have d:=Mem.set_seg (m:=m) (a:=a) (w:=w) j
  exact⟨b.1.trans d.1,b.2.1.trans d.2.1,b.2.2.1.trans d.2.2⟩
 ·exact⟨rfl,rfl,rfl⟩
theorem Mem.store_has:(d.store a b).1.has q ↔ d.has q:=by
 unfold Mem.store
 split
 ·exact Mem.mark_has.trans Mem.set_has
 ·exact Iff.rfl
theorem SpOK.store(b:SpOK o)(a:Int){w:Int}(c:aG w):SpOK {o with mem:=(o.mem.store a w).1}:=
 b.withMem (b.mem.store a c) (λk h=>Mem.store_has.2 h) (λk=>⟨(Mem.store_seg k).1,(Mem.store_seg k).2.1⟩)
def setO(o:Option (Blk×Hp))(w kind i v:Int):Option (Blk×Hp):=
 match o with
 | none=>none
 | some (b,x)=>some (b,x.setMem (if x.sp.mem.fieldE w kind i=0 then(x.sp.mem.store (w / 8+1+i) v).1 else x.sp.mem))
def setE(o:Option (Blk×Hp))(w kind i v:Int):Int:=if(mof o).fieldE w kind i=0 then((mof o).store (w / 8+1+i) v).2 else(mof o).fieldE w kind i
def own(o:Option (Blk×Hp)):List Nat:=match o with | none=> [] | some (b,_)=> [b.sp,b.m,b.s]
theorem ut{v:Int}(V:View H j k)(y:aG a)(A:I64 q)(g:aG v):
  iN.C j a b q v H (λu t=>u=vi (setE k a b q v)/\View t j (setO k a b q v)/\Fr (own k) H t):=by
 refine HC.via λR n=>iN.link ?_
 unfold iN.pt
 refine HC.mono (oL V y A) ?_
 rintro _ F ⟨rfl,i⟩
 refine⟨_,_,rfl,?_⟩
 by_cases c:(mof k).fieldE a b q=0
 case neg=>
  rw[if_neg c]
  have e:setE k a b q v=(mof k).fieldE a b q:=by unfold setE;rw[if_neg c]
  have l:setO k a b q v=k:=by
   unfold setO
   match k,c with
   | none,_=>rfl
   | some (J,x),c=>
    have d: ¬x.sp.mem.fieldE a b q=0:=c
    simp only;rw[if_neg d];rfl
  rw[e,l]at n
  exact n _ _ ⟨rfl,V.ext i,i.fr⟩
 rw[if_pos c,if_pos c]
 obtain⟨f,_,B,p⟩:=Mem.fieldE_0 c
 cases V with
 | nobody=>exact absurd f.1.2.2.1 nk
 | empty h=>exact absurd f.1.2.2.1 nk
 | @real J x h z=>
  have m:=h.ext i
  have I:=f.len_lt
  have E:a / 8<65536:=f.1.1.2
  have D:0<=a / 8:=by have:=y.1;omega
  have s:(mof (some (J,x))).len a=_:=if_pos f
  refine⟨_,rfl,_,m.hPtr,?_⟩
  refine HC.mono (nM m.cd z ⟨by omega,by rw[s]at p;omega⟩ g) ?_
  rintro _ G ⟨rfl,o,w⟩
  refine⟨_,rfl,n _ _ ⟨?_,?_,?_⟩⟩
  ·unfold setE;rw[if_pos c];rfl
  ·have d:x.sp.mem.fieldE a b q=0:=c
   have l:setO (some (J,x)) a b q v=some (J,x.setMem (x.sp.mem.store (a / 8+1+q) v).1):=by unfold setO;simp only;rw[if_pos d]
   rw[l]
   exact .real (m.withCd w (λK r=>by simp at r;omega) o) (z.store _ g)
  ·exact(i.fr (S:=own (some (J,x)))).trans (w.mono (λK r _=>by simp at r;simp[own];omega))
theorem fB.ext{b:List Value}(h:fB H j b)(e:Ext H v):fB v j b:=by
 cases j with
 | none=>exact h
 | some a=>exact e.rowAt h
theorem qH{limit:Int}(p:I64 limit):
  kR.C limit H (λv g=>(¬(8<=limit/\limit<=1024)/\v=.tuple #[vp none,vi 1]/\Ext H g)\/
   ((8<=limit/\limit<=1024)/\ ∃(b:Blk) (x:Hp),v=.tuple #[vp (some ⟨b.h,0,none⟩),vi 0]/\View g (some ⟨b.h,0,none⟩) (some (b,x))/\x=⟨⟨Mem.fresh limit.toNat,λ_ _=>0⟩,VN,VN,0⟩/\Ext H g/\(∀i,i∈b.all->H.size<=i))):=by
 refine HC.via λR j=>kR.link ?_
 unfold kR.pt
 refine HC.mono (tj p) ?_
 rintro _ l (⟨hn,rfl,f⟩ | ⟨r,b,rfl,k,f,u,w,y,z⟩)
 ·refine⟨_,_,rfl,?_⟩
  rw[if_neg (by decide)]
  exact j _ _ (.inl ⟨hn,rfl,f⟩)
 ·refine⟨_,_,rfl,?_⟩
  rw[if_pos rfl]
  intro e t n d
  have q:b.c<l.size:=aW k.c
  have a:=k.ext (Ext.push' d)
  refine j _ _ (.inr ⟨r,{b with h:=e},_,rfl,.real ⟨⟨⟨a.sp.mem,a.sp.ne,a.sp.sp⟩,a.ne,a.c⟩,⟨by show e≠b.c;omega,by show e≠b.sp;omega,by show e≠b.m;omega,by show e≠b.s;omega⟩,aH n d⟩ (ti ⟨by omega,by omega⟩),rfl,f.trans (Ext.push' d),λi o=>?_⟩)
  simp[Blk.all]at o
  have:=f.size
  omega
abbrev wvs(ws:List Int):List Value:=ws.map (Value.int .u64)
theorem gT: ∀a:List Int,kr (wvs a)=true
 | []=>rfl
 | w::a=>by show(true && kr (wvs a))=true;rw[gT a];rfl
structure Grown (m m':Mem) (a n g k:Int):Prop where
 limit:m'.limit=m.limit
 addr:0<=a/\a / 64<m.limit/\a % 64+n<=64
 new:(m'.seg (a / 64).toNat).taken≠0/\(m'.seg (a / 64).toNat).gen=g/\(m'.seg (a / 64).toNat).kind=k/\(m'.seg (a / 64).toNat).n=a % 64+n
 old:(m.seg (a / 64).toNat).taken≠0->(m.seg (a / 64).toNat).gen=g/\(m.seg (a / 64).toNat).kind=k/\(m.seg (a / 64).toNat).n=a % 64/\(m'.seg (a / 64).toNat).words=(m.seg (a / 64).toNat).words/\(m'.seg (a / 64).toNat).cards=(m.seg (a / 64).toNat).cards/\(m'.seg (a / 64).toNat).taken=(m.seg (a / 64).toNat).taken
 fresh:(m.seg (a / 64).toNat).taken=0->a % 64=0
 others: ∀i,i≠(a / 64).toNat->m'.seg i=m.seg i
 free:m.free-1<=m'.free
 count:m'.count<=m.count+1
theorem Mem.bump_ok(g:bJ d)(h:(d.bump a b).2.2=0):d.has a/\1<=b/\(d.seg a.toNat).n+b<=64/\d.bump a b=(d.upd a.toNat ((d.seg a.toNat).bump b),a*64+(d.seg a.toNat).n,0):=by
 unfold Mem.bump at*
 by_cases hk:d.has a
 case neg=>rw[if_pos hk]at h;exact absurd h (by show ¬((19:Int)=0);decide)
 rw[if_neg (λf=>f hk)]at h⊢
 by_cases c:b<1
 ·rw[if_pos c]at h;exact absurd h (by show ¬((1:Int)=0);decide)
 rw[if_neg c]at h⊢
 by_cases e:64-(d.seg a.toNat).n<b
 ·rw[if_pos e]at h;exact absurd h (by show ¬((2:Int)=0);decide)
 rw[if_neg e]at h⊢
 exact⟨hk,by omega,by omega,rfl⟩
theorem Mem.bump_can(hk:d.has a)(e:1<=b)(f:(d.seg a.toNat).n+b<=64):(d.bump a b).2.2=0:=by
 unfold Mem.bump
 rw[if_neg (λc=>c hk),if_neg (by omega),if_neg (by omega)]
theorem Sp.alloc_ok(l:SpOK o)(h:(o.alloc a b q).2.2=0):SpOK (o.alloc a b q).1/\Grown o.mem (o.alloc a b q).1.mem (o.alloc a b q).2.1 q a b:=by
 have N:=l.mem.lim
 unfold Sp.alloc at*
 by_cases hm:may a b q
 case neg=>rw[if_pos hm]at h;exact absurd h (by show ¬((1:Int)=0);decide)
 rw[if_neg (λQ=>Q hm)]at h⊢
 have S:=hm.1
 have hk:0<=b/\b<=3:=by have:=hm.2;omega
 have hn:1<=q/\q<=63:=by have:=hm.2;omega
 by_cases F:o.cur a.toNat b.toNat≠0/\(o.mem.bump (o.cur a.toNat b.toNat-1) q).2.2=0
 ·rw[if_pos F]at h⊢
  obtain⟨B,O,p,z⟩:=Mem.bump_ok l.mem F.2
  rcases l.cur a.toNat b.toNat with s | ⟨J,g,D,E⟩
  ·exact absurd s F.1
  generalize T:o.cur a.toNat b.toNat-1=j at*
  have R:=(l.mem.seg j.toNat).n
  have U:=g.1
  have x:(j*64+(o.mem.seg j.toNat).n) / 64=j:=by omega
  have y:(j*64+(o.mem.seg j.toNat).n) % 64=(o.mem.seg j.toNat).n:=by omega
  have f:=l.mem.bump j q
  rw[z]at f⊢
  refine⟨?_,?_⟩
  ·refine l.withMem f (λi k=>⟨k.1,k.2.1,?_⟩) (λi=>?_)
   ·rw[Mem.upd_seg]
    by_cases e:i.toNat=j.toNat
    ·rw[if_pos e];exact g.2.2
    ·rw[if_neg e];exact k.2.2
   ·rw[Mem.upd_seg]
    by_cases e:i=j.toNat
    ·rw[if_pos e,e];exact⟨rfl,rfl⟩
    ·rw[if_neg e];exact⟨rfl,rfl⟩
  ·refine⟨rfl,⟨by show 0<=j*64+(o.mem.seg j.toNat).n;omega,by show(j*64+(o.mem.seg j.toNat).n) / 64<_;rw[x];exact g.2.1,by show(j*64+(o.mem.seg j.toNat).n) % 64+q<=64;rw[y];exact p⟩,?_,?_,?_,?_,by show _<=o.mem.free;omega,by show o.mem.count<=_;omega⟩<;>simp only[x,y]
   ·rw[Mem.upd_same];exact⟨g.2.2,by rw[show((o.mem.seg j.toNat).bump q).gen=_ from D];omega,by rw[show((o.mem.seg j.toNat).bump q).kind=_ from E];omega,rfl⟩
   ·intro _;rw[Mem.upd_same];refine⟨by rw[D];omega,by rw[E];omega,?_⟩;first | exact⟨rfl,rfl,rfl,rfl⟩ | exact⟨trivial,rfl,rfl,rfl⟩
   ·intro s;exact absurd s g.2.2
   ·intro i k;rw[Mem.upd_other _ _ k]
 rw[if_neg F]at h⊢
 by_cases v:(o.mem.take a b).2.2=0
 case neg=>rw[if_neg v]at h;exact absurd h v
 rw[if_pos v]at h⊢
 have m:=l.mem.take a b
 have w:o.mem.take a b=({o.mem with count:=o.mem.count+1,free:=o.mem.free-1}.upd o.mem.first (Seg.new a b (o.mem.count+1)),(o.mem.first:Int),0)/\o.mem.free≠0:=by
  unfold Mem.take at v⊢
  rw[if_neg (by omega)]at v⊢
  by_cases p:o.mem.free=0
  ·rw[if_pos p]at v;exact absurd v (by show ¬((2:Int)=0);decide)
  ·rw[if_neg p];exact⟨rfl,p⟩
 obtain⟨w,t⟩:=w
 obtain⟨P,A⟩:=Mem.first_spec l.mem t
 rw[w]at h m⊢
 generalize d:({o.mem with count:=o.mem.count+1,free:=o.mem.free-1}:Mem).upd o.mem.first (Seg.new a b (o.mem.count+1))=r at*
 simp only at h m⊢
 have K:=l.mem.count
 have H:r.seg o.mem.first=Seg.new a b (o.mem.count+1):=by rw[<-d,Mem.upd_same]
 have n: ∀i,i≠o.mem.first->r.seg i=o.mem.seg i:=λi k=>by rw[<-d,Mem.upd_other _ _ k]
 have u:r.limit=o.mem.limit:=by rw[<-d];rfl
 have M:r.free=o.mem.free-1:=by rw[<-d];rfl
 have L:r.count=o.mem.count+1:=by rw[<-d];rfl
 obtain⟨B,O,p,z⟩:=Mem.bump_ok m h
 have I:((o.mem.first:Int)).toNat=o.mem.first:=by omega
 rw[I,H]at z p
 have G:(Seg.new a b (o.mem.count+1)).n=0:=rfl
 rw[G]at z p
 have f:=m.bump o.mem.first q
 rw[z]at f⊢
 have x:((o.mem.first:Int)*64+0) / 64=o.mem.first:=by omega
 have y:((o.mem.first:Int)*64+0) % 64=0:=by omega
 refine⟨⟨f,λi j=>?_⟩,?_⟩
 ·show(o.setCur a.toNat b.toNat ((o.mem.first:Int)+1)).cur i j=0\/_
  simp only[Sp.setCur]
  by_cases C:i=a.toNat/\j=b.toNat
  ·rw[if_pos C]
   refine .inr ⟨by omega,⟨by omega,by rw[Mem.upd_limit,u];omega,?_⟩,?_,?_⟩
   ·rw[show((o.mem.first:Int)+1-1).toNat=o.mem.first by omega,Mem.upd_same];show o.mem.count+1≠0;omega
   ·rw[show((o.mem.first:Int)+1-1).toNat=o.mem.first by omega,Mem.upd_same];show a=_;omega
   ·rw[show((o.mem.first:Int)+1-1).toNat=o.mem.first by omega,Mem.upd_same];show b=_;omega
  ·rw[if_neg C]
   rcases l.cur i j with s | ⟨J,g,D,E⟩
   ·exact .inl s
   ·have c:(o.cur i j-1).toNat≠o.mem.first:=λe=>g.2.2 (by rw[e];exact A)
    refine .inr ⟨J,⟨g.1,by rw[Mem.upd_limit,u];exact g.2.1,?_⟩,?_,?_⟩
    ·rw[Mem.upd_other _ _ c,n _ c];exact g.2.2
    ·rw[Mem.upd_other _ _ c,n _ c];exact D
    ·rw[Mem.upd_other _ _ c,n _ c];exact E
 ·refine⟨by show r.limit=_;exact u,⟨by show 0<=(o.mem.first:Int)*64+0;omega,by show((o.mem.first:Int)*64+0) / 64<_;rw[x];omega,by show((o.mem.first:Int)*64+0) % 64+q<=64;rw[y];omega⟩,?_,?_,?_,?_,by show _<=r.free;omega,by show r.count<=_;omega⟩<;>simp only[x,y,I]
  ·rw[Mem.upd_same];exact⟨by show o.mem.count+1≠0;omega,rfl,rfl,rfl⟩
  ·intro s;exact absurd A s
  ·intro _;trivial
  ·intro i k;rw[Mem.upd_other _ _ k,n _ k]
theorem Sp.alloc_can(f:SpOK o)(hm:may a b q)(j:1<=o.mem.free):(o.alloc a b q).2.2=0:=by
 unfold Sp.alloc
 rw[if_neg (λi=>i hm)]
 by_cases d:o.cur a.toNat b.toNat≠0/\(o.mem.bump (o.cur a.toNat b.toNat-1) q).2.2=0
 ·rw[if_pos d]
 rw[if_neg d]
 have k:=hm.1
 have hk:0<=b/\b<=3:=by have:=hm.2;omega
 have hn:1<=q/\q<=63:=by have:=hm.2;omega
 have e:=f.mem.count
 have c:o.mem.take a b=({o.mem with count:=o.mem.count+1,free:=o.mem.free-1}.upd o.mem.first (Seg.new a b (o.mem.count+1)),(o.mem.first:Int),0):=by
  unfold Mem.take
  rw[if_neg (by omega),if_neg (by omega)]
 obtain⟨h,g⟩:=Mem.first_spec f.mem (by omega:o.mem.free≠0)
 rw[c,if_pos rfl]
 refine Mem.bump_can ⟨by show(0:Int)<=(o.mem.first:Int);omega,by show(o.mem.first:Int)< (o.mem.limit:Int);omega,?_⟩ hn.1 ?_
 ·show((Mem.upd _ _ _).seg ((o.mem.first:Int)).toNat).taken≠0
  rw[show((o.mem.first:Int)).toNat=o.mem.first by omega,Mem.upd_same];show o.mem.count+1≠0;omega
 ·show((Mem.upd _ _ _).seg ((o.mem.first:Int)).toNat).n+q<=64
  rw[show((o.mem.first:Int)).toNat=o.mem.first by omega,Mem.upd_same];show 0+q<=64;omega
theorem Sp.alloc_fail(e:SpOK o)(h:(o.alloc a b q).2.2≠0):(o.alloc a b q).1=o:=by
 by_cases hm:may a b q
 case neg=>unfold Sp.alloc;rw[if_pos hm]
 by_cases f:o.mem.free=0
 ·have i:=hm.1
  have hk:0<=b/\b<=3:=by have:=hm.2;omega
  unfold Sp.alloc at*
  rw[if_neg (λg=>g hm)]at h⊢
  by_cases d:o.cur a.toNat b.toNat≠0/\(o.mem.bump (o.cur a.toNat b.toNat-1) q).2.2=0
  ·rw[if_pos d]at h;exact absurd rfl h
  rw[if_neg d]at h⊢
  have c:o.mem.take a b=(o.mem,0,2):=by unfold Mem.take;rw[if_neg (by omega),if_pos f]
  rw[c,if_neg (by decide: ¬((2:Int)=0))]
 ·have:0<=o.mem.free:=by rw[e.mem.free];omega
  exact absurd (Sp.alloc_can e hm (by omega)) h
def Mem.sets(m:Mem)(a:Int):List Int->Mem
 | []=>m
 | w::ws=>(if m.used a then m.set a w else m).sets (a+1) ws
theorem Mem.sets_snoc: ∀(b:List Int) (m:Mem) (a w:Int),m.sets a (b++[w])=if(m.sets a b).used (a+b.length)then(m.sets a b).set (a+b.length) w else m.sets a b
 | [],m,a,w=>by simp[Mem.sets]
 | u::b,m,a,w=>by
  simp only[List.cons_append,Mem.sets,List.length_cons]
  rw[Mem.sets_snoc b,show a+1+(b.length:Int)=a+((b.length+1:Nat):Int)by omega]
  rfl
theorem bJ.sets: ∀(ws:List Int) {m:Mem} (b:bJ m) (a:Int),(∀w∈ws,aG w)->bJ (m.sets a ws)
 | [],m,b,a,_=>b
 | w::ws,m,b,a,h=>by
  simp only[Mem.sets]
  refine bJ.sets ws ?_ _ (λu c=>h u (List.mem_cons_of_mem _ c))
  split
  ·exact b.set a (h w List.mem_cons_self)
  ·exact b
structure bS (m m':Mem):Prop where
 limit:m'.limit=m.limit
 seg: ∀j,(m'.seg j).gen=(m.seg j).gen/\(m'.seg j).kind=(m.seg j).kind/\(m'.seg j).n=(m.seg j).n/\(m'.seg j).taken=(m.seg j).taken/\(m'.seg j).cards=(m.seg j).cards
 free:m'.free=m.free
 count:m'.count=m.count
theorem bS.refl(m:Mem):bS m m:=⟨rfl,λ_=>⟨rfl,rfl,rfl,rfl,rfl⟩,rfl,rfl⟩
theorem bS.trans{a b c:Mem}(h:bS a b)(k:bS b c):bS a c:=
 ⟨k.limit.trans h.limit,λj=>⟨(k.seg j).1.trans (h.seg j).1,(k.seg j).2.1.trans (h.seg j).2.1,(k.seg j).2.2.1.trans (h.seg j).2.2.1,(k.seg j).2.2.2.1.trans (h.seg j).2.2.2.1,(k.seg j).2.2.2.2.trans (h.seg j).2.2.2.2⟩,k.free.trans h.free,k.count.trans h.count⟩
theorem bS.set(m:Mem)(a w:Int):bS m (m.set a w):=⟨rfl,λj=>by
 unfold Mem.set;rw[Mem.upd_seg]
 by_cases h:j=(a / 64).toNat
 ·rw[if_pos h,h];exact⟨rfl,rfl,rfl,rfl,rfl⟩
 ·rw[if_neg h];exact⟨rfl,rfl,rfl,rfl,rfl⟩,rfl,rfl⟩
theorem bS.sets: ∀(ws:List Int) (m:Mem) (a:Int),bS m (m.sets a ws)
 | [],m,a=>bS.refl m
 | w::ws,m,a=>by
  simp only[Mem.sets]
  refine bS.trans ?_ (bS.sets ws _ _)
  split
  ·exact bS.set m a w
  ·exact bS.refl m
theorem bS.has{a:Mem}(h:bS d a){k:Int}:a.has k ↔ d.has k:=by
 unfold Mem.has;rw[h.limit,(h.seg _).2.2.2.1]
theorem bS.used{m b:Mem}(h:bS m b):b.used a ↔ m.used a:=by
 unfold Mem.used;rw[h.has,(h.seg _).2.2.1]
theorem Mem.set_get{m:Mem}(x:Int)(g:0<=x)(f:0<=a):(m.set a b).get x=if x=a then b else m.get x:=by
 unfold Mem.get Mem.set
 rw[Mem.upd_seg]
 by_cases c:(x / 64).toNat=(a / 64).toNat
 ·rw[if_pos c]
  simp only[Seg.set]
  by_cases d:(x % 64).toNat=(a % 64).toNat
  ·rw[if_pos d,if_pos (by omega)]
  ·rw[if_neg d,if_neg (by intro e;subst e;exact d rfl),c]
 ·rw[if_neg c,if_neg (by intro e;subst e;exact c rfl)]
theorem Mem.sets_get: ∀(b:List Int) {m:Mem} {a:Int} (x:Int),0<=x->0<=a->(∀i:Nat,i<b.length->m.used (a+i))->(m.sets a b).get x=if a<=x/\x<a+b.length then b.getD (x-a).toNat 0 else m.get x
 | [],m,a,x,hx,ha,hu=>by simp only[Mem.sets];rw[if_neg (by simp only[List.length_nil];omega)]
 | w::b,m,a,x,hx,ha,hu=>by
  have e:m.used a:=by have:=hu 0 (by simp);simpa using this
  simp only[Mem.sets]
  rw[if_pos e,Mem.sets_get b x hx (by omega) (λi f=>(bS.set m a w).used.2 (by have:=hu (i+1) (by simp;omega);rw[show a+1+(i:Int)=a+((i+1:Nat):Int)by omega];exact this))]
  rw[Mem.set_get x hx ha]
  by_cases c:x=a
  ·subst c
   rw[if_neg (by omega),if_pos rfl,if_pos ⟨by omega,by simp;omega⟩]
   simp
  ·by_cases d:a+1<=x/\x<a+1+b.length
   ·rw[if_pos d,if_pos ⟨by omega,by simp;omega⟩]
    have:(x-a).toNat=(x-(a+1)).toNat+1:=by omega
    rw[this];simp
   ·rw[if_neg d,if_neg c,if_neg (by simp;omega)]
def k8(tag addr:Int):Int×Int:=if ¬(tag=1\/tag=2\/tag=3\/tag=6)then(0,1)else if 0<=addr/\addr<65536 then(addr*8+tag,0)else(0,18)
def Sp.put(s:Sp)(kind tag:Int)(ws:List Int):Sp×Int×Int:=
 if(s.alloc 0 kind ws.length).2.2=0 then({(s.alloc 0 kind ws.length).1 with mem:=(s.alloc 0 kind ws.length).1.mem.sets (s.alloc 0 kind ws.length).2.1 ws},k8 tag (s.alloc 0 kind ws.length).2.1)
 else(s,0,(s.alloc 0 kind ws.length).2.2)
def putO(o:Option (Blk×Hp))(kind tag:Int)(ws:List Int):Option (Blk×Hp):=
 match o with
 | none=>none
 | some (b,x)=>some (b,{x with sp:=(x.sp.put kind tag ws).1})
def putR(o:Option (Blk×Hp))(kind tag:Int)(ws:List Int):Int×Int:=
 match o with
 | none=>(0,2)
 | some (_,x)=>(x.sp.put kind tag ws).2
def si(o:Option (Blk×Hp)):Prop:=(mof o).count<4611686018427387904
theorem SpOK.sets(b:SpOK o)(a:Int){ws:List Int}(c: ∀w∈ws,aG w):SpOK {o with mem:=o.mem.sets a ws}:=
 b.withMem (bJ.sets ws b.mem a c) (λk h=>(bS.sets ws o.mem a).has.2 h) (λk=>⟨((bS.sets ws o.mem a).seg k).1,((bS.sets ws o.mem a).seg k).2.1⟩)
theorem ou{r:zW}{ws:List Int}(V:View H j k)(c:fB H r (wvs ws))(B:i=ws.length)(Z: ∀w∈ws,aG w)
  (hd: ∀ai,ai∈blks r->ai ∉ own k) (hc:si k) (ht:I64 b) (hl:ws.length<=1000):
  gH.C j a b r i u H (λv s=>v=.tuple #[vu (putR k a b ws).1,vi (putR k a b ws).2]/\View s j (putO k a b ws)/\Fr (own k) H s):=by
 subst B
 refine HC.via λR p=>gH.link ?_
 unfold gH.pt zY
 refine HC.mono (nu V) ?_
 rintro _ S ⟨rfl,rfl⟩
 refine⟨_,rfl,?_⟩
 cases V with
 | nobody=>rw[if_pos (show(none:Option (Blk×Hp)).isNone=true from rfl)];exact p _ _ ⟨rfl,.nobody,Fr.refl _ _⟩
 | empty h=>rw[if_pos (show(none:Option (Blk×Hp)).isNone=true from rfl)];exact p _ _ ⟨rfl,.empty h,Fr.refl _ _⟩
 | @real ah x h E=>
  rw[if_neg (show ¬(some (ah,x)).isNone=true from Bool.false_ne_true)]
  refine⟨_,rfl,_,h.hPtr,_,rfl,_,h.cd.cPtr,?_⟩
  refine HC.mono (nj h.cd.sp E hc) ?_
  rintro _ H2 ⟨rfl,N,W⟩
  refine⟨_,_,rfl,?_⟩
  have d:=h.withSp W (λai z=>by simp at z;omega) N
  have y:Fr (own (some (ah,x))) S H2:=W.mono (λai z _=>by simp at z;simp[own];omega)
  by_cases q:(x.sp.alloc 0 a ws.length).2.2=0
  case neg=>
   rw[if_neg q]
   have e:x.sp.put a b ws=(x.sp,0,(x.sp.alloc 0 a ws.length).2.2):=by unfold Sp.put;rw[if_neg q]
   have G:putR (some (ah,x)) a b ws=(0,(x.sp.alloc 0 a ws.length).2.2):=by show(x.sp.put a b ws).2=_;rw[e]
   have I:putO (some (ah,x)) a b ws=some (ah,x):=by show some (ah,{x with sp:=(x.sp.put a b ws).1})=_;rw[e]
   rw[G,I]at p
   rw[Sp.alloc_fail E q]at d
   exact p _ _ ⟨rfl,.real d E,y⟩
  rw[if_pos q]
  obtain⟨F,gr⟩:=Sp.alloc_ok E q
  have e:x.sp.put a b ws=({(x.sp.alloc 0 a ws.length).1 with mem:=(x.sp.alloc 0 a ws.length).1.mem.sets (x.sp.alloc 0 a ws.length).2.1 ws},k8 b (x.sp.alloc 0 a ws.length).2.1):=by unfold Sp.put;rw[if_pos q]
  have G:putR (some (ah,x)) a b ws=k8 b (x.sp.alloc 0 a ws.length).2.1:=by show(x.sp.put a b ws).2=_;rw[e]
  have I:putO (some (ah,x)) a b ws=some (ah,{x with sp:={(x.sp.alloc 0 a ws.length).1 with mem:=(x.sp.alloc 0 a ws.length).1.mem.sets (x.sp.alloc 0 a ws.length).2.1 ws}}):=by show some (ah,{x with sp:=(x.sp.put a b ws).1})=_;rw[e]
  rw[G,I]at p
  generalize a9:(x.sp.alloc 0 a ws.length).1=Q at*
  generalize a6:(x.sp.alloc 0 a ws.length).2.1=ag at*
  have Y:=E.mem.lim
  have a0:=gr.addr
  refine⟨λai s=>(0<=ai/\ai<=ws.length)/\HpAt s ah {x with sp:={Q with mem:=Q.mem.sets ag (ws.take ai.toNat)}}/\Fr (own (some (ah,x))) S s,λai _=>(ws.length-ai).toNat,⟨by omega,by simpa[Mem.sets]using d,y⟩,?_⟩
  rintro ai T ⟨z,f,J⟩
  by_cases l:ai< (ws.length:Int)
  ·rw[if_pos l]
   have A:ai.toNat<ws.length:=by omega
   have m:fB T r (wvs ws):=by
    cases r with
    | none=>exact c
    | some P=>exact J.rowAt (hd _ (by simp)) c
   cases r with
   | none=>
    exfalso
    have e:wvs ws=[]:=c
    have:ws.length=0:=by simpa[wvs]using congrArg List.length e
    omega
   | some P=>
    refine⟨P,rfl,⟨z.1,l⟩,ws[ai.toNat],?_,?_⟩
    ·have:=fD (show aQ T P 0 (wvs ws)from m) ai.toNat (vu (ws[ai.toNat])) (by simp[wvs,A])
     rw[Nat.mul_one];rw[Nat.zero_add]at this;exact this
    refine⟨_,f.hPtr,_,rfl,_,f.cd.cPtr,_,rfl,_,f.cd.sp.memPtr,?_⟩
    have D:bJ (Q.mem.sets ag (ws.take ai.toNat)):=bJ.sets _ F.mem ag (λw O=>Z w (List.mem_of_mem_take O))
    rw[w64 (n:=ag+ai) (by omega),w64 (n:=ai+1) (by omega)]
    refine HC.mono (jH f.cd.sp.mem D (by omega)) ?_
    rintro _ H4 ⟨rfl,M,X⟩
    refine⟨_,rfl,⟨by omega,?_,J.trans (X.mono (λaj L _=>by simp at L;simp[own];omega))⟩,by show((ws.length:Int)-(ai+1)).toNat< ((ws.length:Int)-ai).toNat;omega⟩
    have h4:=f.withMem X (λaj L=>by simp at L;omega) M
    have et:ws.take (ai+1).toNat=ws.take ai.toNat++[ws[ai.toNat]]:=by
     rw[show(ai+1).toNat=ai.toNat+1 by omega,List.take_succ_eq_append_getElem A]
    have el:((ws.take ai.toNat).length:Int)=ai:=by rw[List.length_take];omega
    rw[et,Mem.sets_snoc,el]
    exact h4
  ·rw[if_neg l]
   have K:ai.toNat=ws.length:=by omega
   rw[K,List.take_length]at f
   refine HC.mono (lU ht (by omega)) ?_
   rintro _ H5 ⟨rfl,U⟩
   have ev:(if ¬(b=1\/b=2\/b=3\/b=6)then Value.tuple #[vu 0,vi 1]else if 0<=ag/\ag<65536 then .tuple #[vu (ag*8+b),vi 0]else .tuple #[vu 0,vi 18])=.tuple #[vu (k8 b ag).1,vi (k8 b ag).2]:=by
    by_cases o:b=1\/b=2\/b=3\/b=6
    ·by_cases d:0<=ag/\ag<65536
     ·have t:k8 b ag=(ag*8+b,0):=by unfold k8;rw[if_neg (λg=>g o),if_pos d]
      rw[t,if_neg (λg=>g o),if_pos d]
     ·have t:k8 b ag=(0,18):=by unfold k8;rw[if_neg (λg=>g o),if_neg d]
      rw[t,if_neg (λg=>g o),if_neg d]
    ·have t:k8 b ag=(0,1):=by unfold k8;rw[if_pos o]
     rw[t,if_pos o]
   rw[ev]
   exact⟨_,_,rfl,p _ _ ⟨rfl,.real (f.ext U) (F.sets ag Z),J.trans U.fr⟩⟩
def nm(o:Option (Blk×Hp))(kind more:Int)(ws:List Int):Option (Blk×Hp):=
 if ¬((1<=kind/\kind<=13)/\more<281474976710656)then o
 else if 62<ws.length then o
 else putO o (rawK kind) 3 ((more*65536+ws.length*256+kind*8+5)::ws)
def kZ(o:Option (Blk×Hp))(kind more:Int)(ws:List Int):Int×Int:=
 if ¬((1<=kind/\kind<=13)/\more<281474976710656)then(0,1)
 else if 62<ws.length then(0,6)
 else putR o (rawK kind) 3 ((more*65536+ws.length*256+kind*8+5)::ws)
theorem View.own_lt(V:View H j k): ∀i,i∈own k->i<H.size:=by
 cases V with
 | nobody=>intro i a;simp[own]at a
 | empty h=>intro i a;simp[own]at a
 | real h b=>intro i a;exact h.lt i (by simp[own]at a;simp[Blk.all];omega)
theorem pJ{A:zW}{ws:List Int}(V:View H j k)(d:fB H A (wvs ws))(y:i=ws.length)(U: ∀w∈ws,aG w)
  (hk:I64 a) (o:aG b) (S:si k) (hl:ws.length<=1000000):
  gt.C j a b A i u H (λv I=>v=.tuple #[vu (kZ k a b ws).1,vi (kZ k a b ws).2]/\View I j (nm k a b ws)/\Fr (own k) H I):=by
 subst y
 refine HC.via λR r=>gt.link ?_
 unfold gt.pt
 refine HC.mono (ni hk (by decide) o) ?_
 rintro _ X ⟨rfl,s⟩
 rw[sa]
 refine⟨_,_,rfl,?_⟩
 by_cases c:(1<=a/\a<=13)/\b<281474976710656
 case neg=>
  have m: ¬((1<=a/\a<=13)/\((0:Int)<=0/\(0:Int)<=62)/\b<281474976710656):=λh=>c ⟨h.1,h.2.2⟩
  rw[if_neg m,if_neg (by decide)]
  have e:kZ k a b ws=(0,1):=by unfold kZ;rw[if_pos c]
  have l:nm k a b ws=k:=by unfold nm;rw[if_pos c]
  rw[e,l]at r
  exact r _ _ ⟨rfl,V.ext s,s.fr⟩
 have m:(1<=a/\a<=13)/\((0:Int)<=0/\(0:Int)<=62)/\b<281474976710656:=⟨c.1,by decide,c.2⟩
 rw[if_pos m,if_pos rfl]
 by_cases z:62<ws.length
 ·rw[if_pos (by omega)]
  have e:kZ k a b ws=(0,6):=by unfold kZ;rw[if_neg (λn=>n c),if_pos z]
  have l:nm k a b ws=k:=by unfold nm;rw[if_neg (λn=>n c),if_pos z]
  rw[e,l]at r
  exact r _ _ ⟨rfl,V.ext s,s.fr⟩
 rw[if_neg (by omega)]
 refine HC.mono (ni hk (by omega) o) ?_
 rintro _ Y ⟨rfl,l⟩
 rw[sa]
 refine⟨_,_,rfl,?_⟩
 have B:(1<=a/\a<=13)/\((0:Int)<=(ws.length:Int)/\(ws.length:Int)<=62)/\b<281474976710656:=⟨c.1,by omega,c.2⟩
 rw[if_pos B]
 refine HC.mono qG ?_
 rintro _ Z ⟨rfl,rfl⟩
 refine⟨_,rfl,?_⟩
 intro b4 K D x
 have f:=s.trans l
 have g:=f.trans (Ext.push' x)
 have Q:=aH D x
 have T:=o.1
 have p:fB K A (wvs ws):=by
  cases A with
  | none=>exact d
  | some la=>exact g.rowAt d
 refine dD (ys:=wvs ws) (xs:=[vu (b*65536+ws.length*256+a*8+5)]) ⟨rfl,_,Q,rfl,Nat.le_refl _,rfl,λab hj=>?_⟩ p (by simp[wvs]) (gT ws) rfl (by omega) ?_
 ·have:ab=0:=by omega
  subst this;rfl
 intro p5 c5 L W O E
 have t:Ext H L:=g.fr_trans O (λaa F=>by simp at F;have:=f.size;omega)
 have M:=V.ext t
 refine HC.mono (ou (ws:=(b*65536+ws.length*256+a*8+5)::ws) M W.src (by simp;omega) (λw q=>?_) (λaa F G=>?_) S (by decide) (by simp;omega)) ?_
 ·rcases List.mem_cons.1 q with rfl | q
  ·exact⟨by omega,by omega⟩
  ·exact U w q
 ·have h6:=V.own_lt aa G
  have h7:=g.size
  have h8:=f.size
  rcases E aa F with J | J
  ·simp at J;omega
  ·omega
 rintro _ H6 ⟨rfl,N,P⟩
 refine⟨_,_,rfl,?_⟩
 have e:kZ k a b ws=putR k (rawK a) 3 ((b*65536+ws.length*256+a*8+5)::ws):=by unfold kZ;rw[if_neg (λn=>n c),if_neg z]
 have l:nm k a b ws=putO k (rawK a) 3 ((b*65536+ws.length*256+a*8+5)::ws):=by unfold nm;rw[if_neg (λn=>n c),if_neg z]
 rw[e,l]at r
 exact r _ _ ⟨rfl,N,t.fr.trans P⟩
def Sp.cf(s:Sp):Int:=s.mem.count+s.mem.free
theorem Sp.cf_count(a:SpOK o)(h:o.cf<4611686018427387904):o.mem.count<4611686018427387904:=by
 have:=a.mem.free;unfold Sp.cf at h;omega
theorem Mem.take_cf(m:Mem)(g k:Int):(m.take g k).1.count+(m.take g k).1.free=m.count+m.free:=by
 unfold Mem.take
 split
 ·rfl
 split
 ·rfl
 ·show m.count+1+(m.free-1)=_;omega
theorem Sp.alloc_cf(s:Sp)(g k n:Int):(s.alloc g k n).1.cf=s.cf:=by
 unfold Sp.alloc Sp.cf
 split
 ·rfl
 split
 ·show(s.mem.bump _ _).1.count+(s.mem.bump _ _).1.free=_
  rw[(Mem.bump_lim _ _ _).2.1,(Mem.bump_lim _ _ _).2.2]
 split
 ·show((s.mem.take g k).1.bump _ _).1.count+((s.mem.take g k).1.bump _ _).1.free=_
  rw[(Mem.bump_lim _ _ _).2.1,(Mem.bump_lim _ _ _).2.2]
  exact Mem.take_cf _ _ _
 ·rfl
structure Keep (m m':Mem):Prop where
 limit:m'.limit=m.limit
 used: ∀a,m.used a->m'.used a/\m'.get a=m.get a/\(m'.seg (a / 64).toNat).kind=(m.seg (a / 64).toNat).kind/\(m'.seg (a / 64).toNat).gen=(m.seg (a / 64).toNat).gen/\(m.seg (a / 64).toNat).n<=(m'.seg (a / 64).toNat).n
theorem Keep.refl(m:Mem):Keep m m:=⟨rfl,λa h=>⟨h,rfl,rfl,rfl,Int.le_refl _⟩⟩
theorem Keep.trans{a b c:Mem}(h:Keep a b)(k:Keep b c):Keep a c:=
 ⟨k.limit.trans h.limit,λx j=>by
  obtain⟨d,e,f,g,i⟩:=h.used x j
  obtain⟨l,m,n,o,p⟩:=k.used x d
  exact⟨l,m.trans e,n.trans f,o.trans g,Int.le_trans i p⟩⟩
structure ky (m:Mem) (w kind more:Int) (ws:List Int):Prop where
 word:aG w
 obj:m.isObj w
 kindEq:hk (m.get (w / 8))=kind
 lenEq:hn (m.get (w / 8))=ws.length
 moreEq:hm (m.get (w / 8))=more
 get: ∀(i:Nat) (h:i<ws.length),m.get (w / 8+1+i)=ws[i]
theorem ky.typ(h:ky d a b q z):d.typ a=b:=by unfold Mem.typ;rw[if_pos h.obj];exact h.kindEq
theorem ky.len(h:ky d a b q z):d.len a=z.length:=by unfold Mem.len;rw[if_pos h.obj];exact h.lenEq
theorem ky.usedHead(h:ky d a b q z):d.used (a / 8):=h.obj.1.used h.word
theorem ky.usedAt(h:ky d a b q z)(hn: ∀k,(d.seg k).n<=64){i:Nat}(c:i<z.length):d.used (a / 8+1+i):=
 h.obj.used h.word (hn _) ⟨by omega,by rw[h.len];omega⟩
theorem ky.keep{g:Mem}(h:ky d a b q z)(hn: ∀k,(d.seg k).n<=64)(k:Keep d g):ky g a b q z:=by
 obtain⟨j,c,l,_,m⟩:=k.used _ h.usedHead
 have e:=h.obj
 refine⟨h.word,⟨⟨e.1.1,e.1.2.1,j.2.1,?_,j.2.2⟩,by rw[c];exact e.2.1,?_⟩,by rw[c];exact h.kindEq,by rw[c];exact h.lenEq,by rw[c];exact h.moreEq,λi f=>?_⟩
 ·rw[l,c];exact e.1.2.2.2.1
 ·rw[c];have:=e.2.2;omega
 ·rw[(k.used _ (h.usedAt hn f)).2.1];exact h.get i f
theorem Grown.lay{m h:Mem}{a g k:Int}(c:Grown m h a z.length g k)(G:bJ m):Keep m (h.sets a z)/\(∀x,0<=x->(h.sets a z).get x=if a<=x/\x<a+z.length then z.getD (x-a).toNat 0 else h.get x)/\(∀i:Nat,i<z.length->(h.sets a z).used (a+i)):=by
 have l:=bS.sets z h a
 obtain⟨u,v,E⟩:=c.addr
 have s: ∀i:Nat,i<z.length->h.used (a+i):=λi q=>by
  have p:(a+i) / 64=a / 64:=by omega
  have w:(a+i) % 64=a % 64+i:=by omega
  refine⟨by omega,?_,?_⟩
  ·rw[p];exact⟨by omega,by rw[c.limit];exact v,c.new.1⟩
  ·rw[p,w,c.new.2.2.2];omega
 have d:=λx (e:0<=x)=>Mem.sets_get z (m:=h) (a:=a) x e u s
 refine⟨⟨l.limit.trans c.limit,λx e=>?_⟩,d,λi q=>l.used.2 (s i q)⟩
 have n:=e.1
 have b:=l.seg (x / 64).toNat
 by_cases f:(x / 64).toNat=(a / 64).toNat
 ·have r:(m.seg (a / 64).toNat).taken≠0:=by rw[<-f];exact e.2.1.2.2
  obtain⟨A,B,t,C,F,D⟩:=c.old r
  have o:=e.2.2
  rw[f,t]at o
  have y:x<a:=by omega
  refine⟨l.used.2 ⟨n,⟨e.2.1.1,by rw[c.limit];exact e.2.1.2.1,by rw[f,D];exact r⟩,by rw[f,c.new.2.2.2];omega⟩,?_,?_,?_,?_⟩
  ·rw[d x n,if_neg (by omega)];unfold Mem.get;rw[f,C]
  ·rw[b.2.1,f,c.new.2.2.1,B]
  ·rw[b.1,f,c.new.2.1,A]
  ·rw[b.2.2.1,f,c.new.2.2.2,t];omega
 ·have j:=c.others _ f
  refine⟨l.used.2 ⟨n,⟨e.2.1.1,by rw[c.limit];exact e.2.1.2.1,by rw[j];exact e.2.1.2.2⟩,by rw[j];exact e.2.2⟩,?_,?_,?_,?_⟩
  ·rw[d x n,if_neg (by omega)];unfold Mem.get;rw[j]
  ·rw[b.2.1,j]
  ·rw[b.1,j]
  ·rw[b.2.2.1,j];omega
theorem Sp.put_ok(f:SpOK o)(hm:may 0 a z.length)(h:b=1\/b=2\/b=3\/b=6)(i: ∀w∈z,aG w)(c:(o.alloc 0 a z.length).2.2=0):
  ∃n:Int,(o.put a b z).2=(n*8+b,0)/\Grown o.mem (o.alloc 0 a z.length).1.mem n z.length 0 a/\(o.put a b z).1.mem=(o.alloc 0 a z.length).1.mem.sets n z/\SpOK (o.put a b z).1/\n<65536/\(o.put a b z).1.cur=(o.alloc 0 a z.length).1.cur:=by
 obtain⟨d,e⟩:=Sp.alloc_ok f c
 have m:=f.mem.lim
 obtain⟨j,k,l⟩:=e.addr
 refine⟨(o.alloc 0 a z.length).2.1,?_,e,?_,?_,by omega,?_⟩
 ·unfold Sp.put;rw[if_pos c];unfold k8;rw[if_neg (λg=>g h),if_pos (by omega)]
 ·unfold Sp.put;rw[if_pos c]
 ·unfold Sp.put;rw[if_pos c];exact d.sets _ i
 ·unfold Sp.put;rw[if_pos c]
theorem tl{kind more:Int}{n:Nat}(b:1<=kind/\kind<=13)(c:0<=more/\more<281474976710656)(a:n<=62):
  kt (more*65536+n*256+kind*8+5)/\hk (more*65536+n*256+kind*8+5)=kind/\hn (more*65536+n*256+kind*8+5)=n/\hm (more*65536+n*256+kind*8+5)=more:=by
 unfold kt hk hn hm
 refine⟨⟨by omega,by omega⟩,by omega,by omega,by omega⟩
theorem Mem.store_get{m:Mem}(c:m.used a)(x:Int)(d:0<=x):(m.store a b).1.get x=if x=a then b else m.get x:=by
 have e:m.store a b=(m.set a b).mark (a / 64) (a % 64 / 16) ((m.set a b).younger ((m.set a b).seg (a / 64).toNat) b (((m.set a b).seg (a / 64).toNat).cards (a % 64 / 16).toNat)):=by unfold Mem.store;rw[if_pos c]
 rw[e,<-Mem.set_get (m:=m) x d c.1]
 unfold Mem.get
 rw[(Mem.mark_seg _).2.2.2]
theorem Mem.mark_lim:(d.mark a b q).1.limit=d.limit/\(d.mark a b q).1.free=d.free/\(d.mark a b q).1.count=d.count:=by
 unfold Mem.mark
 split
 ·exact⟨rfl,rfl,rfl⟩
 split
 ·exact⟨rfl,rfl,rfl⟩
 ·exact⟨rfl,rfl,rfl⟩
theorem Mem.store_lim:(d.store a b).1.limit=d.limit/\(d.store a b).1.free=d.free/\(d.store a b).1.count=d.count:=by
 unfold Mem.store
 split
 ·exact Mem.mark_lim
 ·exact⟨rfl,rfl,rfl⟩
theorem Mem.store_used:(d.store a b).1.used q ↔ d.used q:=by
 unfold Mem.used
 rw[Mem.store_has,(Mem.store_seg _).2.2]
theorem bJ.genOf(a:bJ d)(w:Int):0<=(d.genOf w).1:=by
 unfold Mem.genOf
 split
 ·simp only
  split
  ·exact(a.seg _).gen.1
  ·exact Int.le_refl _
 ·exact Int.le_refl _
def Sep(w:Int)(n:Nat)(w':Int)(n':Nat):Prop:= ∀i j:Nat,i<=n->j<=n'->w / 8+i≠w' / 8+j
theorem Sep.symm{n c:Nat}(h:Sep a n b c):Sep b c a n:=λi j d f e=>h j i f d e.symm
theorem ky.set{m:Mem}{w a b v:Int}(h:ky m w a b z)(p:bJ m)(o:i<z.length):ky (m.store (w / 8+1+i) v).1 w a b (z.set i v):=by
 have f: ∀k,(m.seg k).n<=64:=λk=>(p.seg k).n.2
 have l:=h.usedAt f o
 have q:0<=w / 8:=by have:=h.word.1;omega
 have c:=h.obj
 have d:(m.store (w / 8+1+i) v).1.get (w / 8)=m.get (w / 8):=by rw[Mem.store_get l _ q,if_neg (by omega)]
 refine⟨h.word,⟨⟨c.1.1,c.1.2.1,Mem.store_has.2 c.1.2.2.1,?_,?_⟩,by rw[d];exact c.2.1,?_⟩,by rw[d];exact h.kindEq,by rw[d,List.length_set];exact h.lenEq,by rw[d];exact h.moreEq,λj g=>?_⟩
 ·rw[d,(Mem.store_seg _).2.1];exact c.1.2.2.2.1
 ·rw[(Mem.store_seg _).2.2];exact c.1.2.2.2.2
 ·rw[d,(Mem.store_seg _).2.2];exact c.2.2
 ·rw[List.length_set]at g
  rw[Mem.store_get l _ (by omega),List.getElem_set]
  by_cases e:i=j
  ·subst e;rw[if_pos rfl,if_pos rfl]
  ·rw[if_neg (by omega),if_neg e];exact h.get j g
def Mem.isPair(m:Mem)(w:Int):Prop:=(m.atW w 1 0\/m.atW w 2 1)/\w / 8 % 2=0
instance (m:Mem) (w:Int):Decidable (m.isPair w):=by unfold Mem.isPair;infer_instance
theorem pK(V:View H j k)(g:aG a):
  gE.C j a H (λv l=> ∃r:Int,v=.tuple #[vi r,.bool (decide ((mof k).isPair a))]/\((mof k).isPair a->r=a / 8)/\Ext H l):=by
 refine HC.via λR i=>gE.link ?_
 unfold gE.pt
 have e:0<=a / 8:=by have:=g.1;omega
 refine HC.mono (pI V g) ?_
 rintro _ o ⟨r,rfl,n,f⟩
 refine⟨_,_,rfl,?_⟩
 by_cases b:(mof k).atW a 1 0
 ·rw[if_pos (zX b),n b,jz e]
  refine i _ _ ⟨_,?_,λ_=>rfl,f⟩
  refine tupb ?_
  rw[Bool.eq_iff_iff,beq_iff_eq,decide_eq_true_eq]
  exact⟨λh=>⟨.inl b,h⟩,λh=>h.2⟩
 rw[if_neg (by simpa using b)]
 refine HC.mono (pI (V.ext f) g) ?_
 rintro _ p ⟨q,rfl,d,m⟩
 refine⟨_,_,rfl,i _ _ ⟨_,?_,λh=>d (h.1.resolve_left b),f.trans m⟩⟩
 refine tupb ?_
 by_cases c:(mof k).atW a 2 1
 ·rw[d c,jz e,zX c,Bool.true_and,Bool.eq_iff_iff,beq_iff_eq,decide_eq_true_eq]
  exact⟨λh=>⟨.inr c,h⟩,λh=>h.2⟩
 ·rw[zQ c,Bool.false_and,zQ]
  exact λh=>h.1.elim b c
theorem ny(V:View H j k)(e:aG a):
  fJ.C j a H (λv b=>v=.bool (decide ((mof k).isPair a))/\Ext H b):=by
 refine HC.via λR d=>fJ.link ?_
 unfold fJ.pt
 refine HC.mono (pK V e) ?_
 rintro _ f ⟨h,rfl,g,c⟩
 exact⟨_,_,rfl,d _ _ ⟨rfl,c⟩⟩
theorem Mem.isPair.addr(h:d.isPair a)(b:aG a):0<=a / 8/\a / 8<65536:=by
 have:=b.1
 refine⟨by omega,?_⟩
 rcases h.1 with h | h
 ·exact h.1.2
 ·exact h.1.2
def nN(o:Option (Blk×Hp))(w i v:Int):Option (Blk×Hp):=
 match o with
 | none=>none
 | some (b,x)=>some (b,x.setMem (if x.sp.mem.isPair w then(x.sp.mem.store (w / 8+i) v).1 else x.sp.mem))
def qI(o:Option (Blk×Hp))(w i v:Int):Int:=if(mof o).isPair w then((mof o).store (w / 8+i) v).2 else 3
theorem qJ(V:View H j k)(t:aG a)(B:0<=b/\b<=1)(f:aG q):
  hZ.C j a b q H (λu r=>u=vi (qI k a b q)/\View r j (nN k a b q)/\Fr (own k) H r):=by
 refine HC.via λR m=>hZ.link ?_
 unfold hZ.pt zY
 refine HC.mono (pK V t) ?_
 rintro _ y ⟨D,rfl,w,g⟩
 refine⟨_,_,rfl,?_⟩
 by_cases c:(mof k).isPair a
 case neg=>
  rw[if_neg (by simpa using c)]
  have e:qI k a b q=3:=by unfold qI;rw[if_neg c]
  have i:nN k a b q=k:=by
   unfold nN
   match k,c with
   | none,_=>rfl
   | some (E,x),c=>
    have d: ¬x.sp.mem.isPair a:=c
    simp only;rw[if_neg d];rfl
  rw[e,i]at m
  exact m _ _ ⟨rfl,V.ext g,g.fr⟩
 rw[if_pos (zX c),w c]
 have A:=c.addr t
 cases V with
 | nobody=>exact absurd (c.1.elim (λh=>h.2.2.1) (λh=>h.2.2.1)) nk
 | empty h=>exact absurd (c.1.elim (λh=>h.2.2.1) (λh=>h.2.2.1)) nk
 | @real E x h v=>
  have l:=h.ext g
  have d:x.sp.mem.isPair a:=c
  refine⟨_,rfl,_,l.hPtr,?_⟩
  rw[w64 (n:=a / 8+b) (by omega)]
  refine HC.mono (nM l.cd v ⟨by omega,by omega⟩ f) ?_
  rintro _ z ⟨rfl,o,s⟩
  refine⟨_,rfl,m _ _ ⟨?_,?_,?_⟩⟩
  ·unfold qI;rw[if_pos c];rfl
  ·have i:nN (some (E,x)) a b q=some (E,x.setMem (x.sp.mem.store (a / 8+b) q).1):=by unfold nN;simp only;rw[if_pos d]
   rw[i]
   exact .real (l.withCd s (λF p=>by simp at p;omega) o) (v.store _ f)
  ·exact(g.fr (S:=own (some (E,x)))).trans (s.mono (λF p _=>by simp at p;simp[own];omega))
theorem rp(V:View H j k)(h:aG a)(c:aG b):
  fR.C j a b H (λu d=>u=vi (qI k a 0 b)/\View d j (nN k a 0 b)/\Fr (own k) H d):=by
 refine HC.via λR g=>fR.link ?_
 unfold fR.pt
 refine HC.mono (qJ V h (by decide) c) ?_
 rintro _ i ⟨rfl,e,f⟩
 exact⟨_,rfl,g _ _ ⟨rfl,e,f⟩⟩
theorem rq(V:View H j k)(h:aG a)(c:aG b):
  fS.C j a b H (λu d=>u=vi (qI k a 1 b)/\View d j (nN k a 1 b)/\Fr (own k) H d):=by
 refine HC.via λR g=>fS.link ?_
 unfold fS.pt
 refine HC.mono (qJ V h (by decide) c) ?_
 rintro _ i ⟨rfl,e,f⟩
 exact⟨_,rfl,g _ _ ⟨rfl,e,f⟩⟩
def Mem.sizeOf(m:Mem)(w:Int):Int:=if m.isPair w then 2 else if m.isObj w then m.len w+1 else 0
theorem kN(V:View H j k)(g:aG a):
  bV.C j a H (λv h=>v=vi ((mof k).sizeOf a)/\Ext H h):=by
 refine HC.via λR e=>bV.link ?_
 unfold bV.pt zY
 refine HC.mono (ny V g) ?_
 rintro _ l ⟨rfl,d⟩
 refine⟨_,rfl,?_⟩
 by_cases c:(mof k).isPair a
 ·rw[if_pos (zX c)]
  exact e _ _ ⟨by unfold Mem.sizeOf;rw[if_pos c],d⟩
 rw[if_neg (by simpa using c)]
 refine HC.mono (kj (V.ext d) g) ?_
 rintro _ m ⟨rfl,f⟩
 refine⟨_,_,_,_,_,rfl,?_⟩
 by_cases b:(mof k).isObj a
 ·rw[if_pos (zX b)]
  have n:=b.len_lt
  have i:(mof k).len a=hn ((mof k).get (a / 8)):=by unfold Mem.len;rw[if_pos b]
  refine e _ _ ⟨?_,d.trans f⟩
  rw[w64 (by omega)];unfold Mem.sizeOf;rw[if_neg c,if_pos b]
 ·rw[if_neg (by simpa using b)]
  exact e _ _ ⟨by unfold Mem.sizeOf;rw[if_neg c,if_neg b],d.trans f⟩
theorem sj{H0 H:zV}(c:H[i]?=some (.cells #[vu a,vu b] 40 (0,0))):fB H (some ⟨i,0,none⟩) (wvs [a,b]):=
 dV c _ 0 0 (λj d=>by
  have:j=0\/j=1:=by simp at d;omega
  rcases this with rfl | rfl<;>rfl)
theorem pL(V:View H j k)(s:aG a)(t:aG b)(p:si k):
  fY.C j a b H (λv e=>v=.tuple #[vu (putR k 0 1 [a,b]).1,vi (putR k 0 1 [a,b]).2]/\View e j (putO k 0 1 [a,b])/\Fr (own k) H e):=by
 refine HC.via λR n=>fY.link ?_
 unfold fY.pt
 intro u h o c
 have f:Ext H h:=Ext.push' c
 refine HC.mono (ou (ws:=[a,b]) (V.ext f) (sj (H0:=H) (aH o c)) rfl (λw g=>by simp at g;rcases g with rfl | rfl<;>assumption) (λi q d=>by simp at q;have:=V.own_lt i d;omega) p (by decide) (by simp)) ?_
 rintro _ r ⟨rfl,l,m⟩
 exact⟨_,_,rfl,n _ _ ⟨rfl,l,f.fr.trans m⟩⟩
theorem pM(V:View H j k)(s:aG a)(t:aG b)(p:si k):
  fZ.C j a b H (λv e=>v=.tuple #[vu (putR k 1 2 [a,b]).1,vi (putR k 1 2 [a,b]).2]/\View e j (putO k 1 2 [a,b])/\Fr (own k) H e):=by
 refine HC.via λR n=>fZ.link ?_
 unfold fZ.pt
 intro u h o c
 have f:Ext H h:=Ext.push' c
 refine HC.mono (ou (ws:=[a,b]) (V.ext f) (sj (H0:=H) (aH o c)) rfl (λw g=>by simp at g;rcases g with rfl | rfl<;>assumption) (λi q d=>by simp at q;have:=V.own_lt i d;omega) p (by decide) (by simp)) ?_
 rintro _ r ⟨rfl,l,m⟩
 exact⟨_,_,rfl,n _ _ ⟨rfl,l,f.fr.trans m⟩⟩
