/-
  A memory of segments, said of abstract segments: how it stands on the heap, and the contracts of package seg. Proves nothing of any one statement.
-/
import Derived.Test.YtfhbhckhmnleoaaGreatFword
import Derived.Test.YtfhbhckhmnleoaaGreatWord
import Derived.Test.YtfhbhckhmnleoaaGreatFref01
set_option linter.unusedVariables false
set_option linter.unusedSimpArgs false
namespace Go.Proofs.YtfhbhckhmnleoaaGreat
open Go
theorem EK:type_of% @List.length_replicate:=@List.length_replicate
theorem EF:type_of% @List.countP_le_length:=@List.countP_le_length
theorem ED:type_of% @List.countP_congr:=@List.countP_congr
theorem EC:type_of% @List.countP_append:=@List.countP_append
theorem EB:type_of% @List.length_set:=@List.length_set
theorem Eb:type_of% @List.countP_cons:=@List.countP_cons
theorem D9:type_of% @List.take_length:=@List.take_length
theorem DZ:type_of% @Int.le_trans:=@Int.le_trans
theorem DP:type_of% @List.range_succ:=@List.range_succ
theorem Dq:type_of% @Int.le_refl:=@Int.le_refl
theorem Di:type_of% @List.length_take:=@List.length_take
theorem De:type_of% @List.take_of_length_le:=@List.take_of_length_le
theorem Dc:type_of% @List.mem_range:=@List.mem_range
theorem Db:type_of% @List.take_succ_eq_append_getElem:=@List.take_succ_eq_append_getElem
variable{H B:zV}{d i v:Int}{k A:Nat}{o:zW}{C:List Int}
abbrev Ah(x:Int):Prop:= -9223372036854775808<=x/\x<=9223372036854775807
structure Seg where
  gen:Int
  kind:Int
  n:Int
  cards:Nat->Int
  taken:Int
  words:Nat->Int
def Seg.cell(s:Seg):Nat->Value
  | 0=> vi s.gen
  | 1=> vi s.kind
  | 2=> vi s.n
  | 3=> vi (s.cards 0)
  | 4=> vi (s.cards 1)
  | 5=> vi (s.cards 2)
  | 6=> vi (s.cards 3)
  | 7=> vi s.taken
  | j+8=> vu (s.words j)
def Seg.none:Seg:=⟨0,0,0,λ_=>0,0,λ_=>0⟩
def Seg.new(gen kind taken:Int):Seg:=⟨gen,kind,0,λ_=>5,taken,λ_=>0⟩
structure uE (s:Seg):Prop where
  gen:0<=s.gen/\s.gen<=4
  kind:0<=s.kind/\s.kind<=3
  n:0<=s.n/\s.n<=64
  cards: ∀c,0<=s.cards c/\s.cards c<=5
  taken:0<=s.taken
  words: ∀j,aD (s.words j)
structure Mem where
  limit:Nat
  seg:Nat->Seg
  count:Int
  free:Int
variable{j:Mem}
def Mem.upd(m:Mem)(k:Nat)(s:Seg):Mem:={m with seg:=λi=>if i=k then s else m.seg i}
@[simp] theorem Mem.upd_limit (m:Mem) (k:Nat) (s:Seg):(m.upd k s).limit=m.limit:=rfl
@[simp] theorem Mem.upd_count (m:Mem) (k:Nat) (s:Seg):(m.upd k s).count=m.count:=rfl
@[simp] theorem Mem.upd_free (m:Mem) (k:Nat) (s:Seg):(m.upd k s).free=m.free:=rfl
theorem Mem.upd_same(m:Mem)(k:Nat)(s:Seg):(m.upd k s).seg k=s:=by simp[Mem.upd]
theorem Dy:type_of% @Mem.upd_same:=@Mem.upd_same
theorem Mem.upd_other(m:Mem)(s:Seg)(h:k≠A):(m.upd A s).seg k=m.seg k:=by simp[Mem.upd,h]
theorem DE:type_of% @Mem.upd_other:=@Mem.upd_other
theorem Mem.upd_seg(m:Mem)(i k:Nat)(s:Seg):(m.upd k s).seg i=if i=k then s else m.seg i:=rfl
theorem Do:type_of% @Mem.upd_seg:=@Mem.upd_seg
def Mem.nfree(m:Mem):Nat:=(List.range m.limit).countP (λk=>(m.seg k).taken==0)
structure bD (m:Mem):Prop where
  lim:8<=m.limit/\m.limit<=1024
  seg: ∀k,uE (m.seg k)
  free:m.free=m.nfree
  count:0<=m.count
theorem mq: ∀(n k:Nat) (p q:Nat->Bool),k<n->(∀i,i≠k->p i=q i)->p k=true->q k=false->(List.range n).countP p=(List.range n).countP q+1
  | 0,k,p,q,hk,_,_,_=>by omega
  | n+1,k,p,q,hk,hpq,h1,h2=>by
    rw[DP,EC,EC]
    by_cases a:k=n
    · subst a
      have e:(List.range k).countP p=(List.range k).countP q:=by
        refine ED λi b=>?_
        have:i<k:=Dc.1 b
        rw[hpq i (by omega)]
      rw[e]
      simp[h1,h2]
    · rw[mq n k p q (by omega) hpq h1 h2]
      simp[Eb,hpq n (λh=>a h.symm)]
      omega
theorem Mem.nfree_pos(h:j.nfree≠0): ∃k,k<j.limit/\(j.seg k).taken=0:=by
  have:0< (List.range j.limit).countP (λk=>(j.seg k).taken==0):=Nat.pos_of_ne_zero h
  obtain⟨k,hk,a⟩:=List.countP_pos_iff.1 this
  exact⟨k,Dc.1 hk,by simpa using a⟩
theorem Mem.nfree_same{s:Seg}(h:s.taken=(j.seg k).taken):(j.upd k s).nfree=j.nfree:=by
  unfold Mem.nfree
  refine ED λi _=>?_
  rw[Do]
  by_cases a:i=k
  · rw[qB a,h,a]
  · rw[za a]
theorem Mem.nfree_take{m:Mem}{k:Nat}{s:Seg}(hk:k<m.limit)(a:(m.seg k).taken=0)(b:s.taken≠0):m.nfree=(m.upd k s).nfree+1:=by
  refine mq _ k _ _ hk (λi c=>by rw[DE _ _ c]) (by simp[a]) ?_
  show(((m.upd k s).seg k).taken==0)=false
  rw[Dy];simpa using b
theorem Mem.nfree_give{m:Mem}{k:Nat}{s:Seg}(hk:k<m.limit)(a:(m.seg k).taken≠0)(b:s.taken=0):(m.upd k s).nfree=m.nfree+1:=by
  refine mq _ k _ _ hk (λi c=>by rw[DE _ _ c]) ?_ (by simpa using a)
  show(((m.upd k s).seg k).taken==0)=true
  rw[Dy];simp[b]
theorem bD.upd{m:Mem}(h:bD m){k:Nat}{s:Seg}(hs:uE s)(ht:s.taken=(m.seg k).taken):bD (m.upd k s):=
  ⟨h.lim, fun i => by rw [Do]; by_cases hi : i = k; · rw [qB hi]; exact hs
                      · rw[za hi];exact h.seg i,by rw[Mem.nfree_same ht];exact h.free,h.count⟩
structure cS (H:zV) (bm bs:Nat) (m:Mem):Prop where
  mem: ∃cap:Nat,H[bm]?=some (.cells #[vs (some ⟨bs,0,none⟩) m.limit cap,vi m.count,vi m.free] 157 (0,0))
  ne:bm≠bs
  segs: ∃cs:Array Value,H[bs]?=some (.cells cs 161 (0,0))/\m.limit*72<=cs.size/\ ∀k,k<m.limit-> ∀j,j<72->cs[k*72+j]?=some ((m.seg k).cell j)
theorem cS.keep{S:List Nat}(h:cS H k A j)(f:Fr S H B)(b:k ∉ S)(c:A ∉ S):cS B k A j:=by
  obtain⟨a,d,e⟩:=h.segs
  exact⟨⟨h.mem.choose,f.get b h.mem.choose_spec⟩,h.ne,a,f.get c d,e⟩
theorem cS.ext(h:cS H k A j)(f:Ext H B):cS B k A j:=h.keep (S:=[]) f.fr (by simp) (by simp)
theorem cS.lt{m:Mem}(h:cS H k A m):k<H.size/\A<H.size:=by
  obtain⟨b,a,_⟩:=h.segs
  exact⟨aS h.mem.choose_spec,aS a⟩
theorem cS.at{H:zV}{a:Nat}{m:Mem}(h:cS H A a m){k j:Nat}(hk:k<m.limit)(c:j<72):hat H ⟨a,k*72+j,none⟩=some ((m.seg k).cell j):=by
  obtain⟨e,b,_,d⟩:=h.segs
  rw[aI b,d k hk j c]
theorem cS.segsAt(h:cS H k A j): ∃a:Nat,hat H ⟨k,0,none⟩=some (vs (some ⟨A,0,none⟩) j.limit a):=⟨h.mem.choose,by rw[aI h.mem.choose_spec];rfl⟩
theorem cS.countAt(h:cS H k A j):hat H ⟨k,1,none⟩=some (vi j.count):=by rw[aI h.mem.choose_spec];rfl
theorem cS.freeAt(h:cS H k A j):hat H ⟨k,2,none⟩=some (vi j.free):=by rw[aI h.mem.choose_spec];rfl
theorem cS.canPuts{a:Nat}(h:cS H A a j){k o n:Nat}(hk:k<j.limit)(hn:o+n<=72):aH H ⟨a,k*72+o,none⟩ 0 n:=by
  obtain⟨c,b,d,_⟩:=h.segs
  refine cR b _ _ _ ?_
  have:(k+1)*72<=j.limit*72:=DV _ hk
  omega
theorem cS.puts{b:Nat}(h:cS H A b j){k o:Nat}{vs:List Value}{s:Seg}(hk:k<j.limit)(hn:o+vs.length<=72)
    (t: ∀w,w<vs.length->vs[w]?=some (s.cell (o+w))) (p: ∀w,w<72->(w<o\/o+vs.length<=w)->s.cell w=(j.seg k).cell w):
    cS (aP H ⟨b,k*72+o,none⟩ vs 0) A b (j.upd k s)/\Fr [b] H (aP H ⟨b,k*72+o,none⟩ vs 0):=by
  obtain⟨r,q,v,n⟩:=h.segs
  have u:(k+1)*72<=j.limit*72:=DV _ hk
  rw[bY vs H r (k*72+o) 0 q,Nat.add_zero]
  refine⟨⟨⟨h.mem.choose,by rw[iY (λe=>h.ne e.symm)];exact h.mem.choose_spec⟩,h.ne,_,aT (aS q),by rw[DK];exact v,λi c w d=>?_⟩,Fr.set⟩
  rw[Do]
  have c:i<j.limit:=c
  by_cases a:i=k
  · subst a
    rw[qB rfl]
    by_cases g:w<o
    · rw[eF _ _ _ _ (by omega),n i c w d,p w d (.inl g)]
    by_cases l:o+vs.length<=w
    · rw[iO _ _ _ _ (by omega),n i c w d,p w d (.inr l)]
    · rw[show i*72+w=i*72+o+(w-o)by omega,fO _ _ _ _ (by omega) (by omega),t (w-o) (by omega),show o+(w-o)=w by omega]
  · rw[za a,<-n i c w d]
    rcases Nat.lt_or_gt_of_ne a with m | f
    · have:(i+1)*72<=k*72:=DV _ m
      exact eF _ _ _ _ (by omega)
    · have:(k+1)*72<=i*72:=DV _ f
      exact iO _ _ _ _ (by omega)
theorem cS.put{m:Mem}(h:cS H k A m){e o:Nat}{v:Value}{s:Seg}(hk:e<m.limit)(hn:o<72)
    (b:s.cell o=v) (c: ∀j,j<72->j≠o->s.cell j=(m.seg e).cell j):
    cS (aP H ⟨A,e*72+o,none⟩ [v] 0) k A (m.upd e s)/\Fr [A] H (aP H ⟨A,e*72+o,none⟩ [v] 0):=by
  refine h.puts hk (by simp;omega) (λj a=>?_) (λj a d=>c j a (by simp at d;omega))
  simp only[List.length_singleton]at a
  obtain rfl:j=0:=by omega
  rw[Nat.add_zero,b];rfl
def Mem.has(m:Mem)(k:Int):Prop:=0<=k/\k<m.limit/\(m.seg k.toNat).taken≠0
instance (m:Mem) (k:Int):Decidable (m.has k):=by unfold Mem.has;infer_instance
theorem mQ(h:cS H k A j):
    gL.C (some ⟨k,0,none⟩) d H (λv g=>v=vp (if j.has d then some ⟨A,d.toNat*72,none⟩else none)/\g=H):=by
  refine HC.via λR b=>gL.link ?_
  unfold gL.pt
  rw[CK]
  by_cases e:d<0
  · rw[qB e];exact b _ _ ⟨by rw[za (λa=>by have:=a.1;omega)],rfl⟩
  rw[za e]
  refine⟨_,_,_,h.segsAt.choose_spec,?_⟩
  by_cases f:d>=(j.limit:Int)
  · rw[qB f];exact b _ _ ⟨by rw[za (λa=>by have:=a.2.1;omega)],rfl⟩
  rw[za f]
  have hk:d.toNat<j.limit:=by omega
  refine⟨_,_,_,h.segsAt.choose_spec,_,rfl,⟨by omega,by omega⟩,(j.seg d.toNat).taken,?_,?_⟩
  · simp only[CH,CQ];exact h.at hk (by omega)
  by_cases c:(j.seg d.toNat).taken=0
  · rw[qB c];exact b _ _ ⟨by rw[za (λa=>a.2.2 c)],rfl⟩
  · rw[za c]
    refine⟨_,_,_,h.segsAt.choose_spec,_,rfl,⟨by omega,by omega⟩,b _ _ ⟨?_,rfl⟩⟩
    rw[qB ⟨by omega,by omega,c⟩,CH,CQ]
def Seg.head(s:Seg):Value:=.agg #[vi s.gen,vi s.kind,vi s.n,vi (s.cards 0),vi (s.cards 1),vi (s.cards 2),vi (s.cards 3)]
theorem kY{m:Mem}(h:cS H k A m):
    bB.C (some ⟨k,0,none⟩) d H (λv w=>v=.tuple #[(if m.has d then m.seg d.toNat else Seg.none).head,.bool (decide (m.has d))]/\Ext H w):=by
  refine HC.via λR u=>bB.link ?_
  unfold bB.pt
  intro b H1 x e
  have g:Ext H H1:=CI e
  have t:=aF x e
  refine HC.mono (mQ (h.ext g)) ?_
  rintro _ i ⟨rfl,rfl⟩
  refine⟨_,rfl,?_⟩
  by_cases hk:m.has d
  · rw[qB hk,CK]
    have q:d.toNat<m.limit:=by have:=hk.1;have:=hk.2.1;omega
    have f:aL i ⟨A,d.toNat*72,none⟩ 0 [vi (m.seg d.toNat).gen,vi (m.seg d.toNat).kind,vi (m.seg d.toNat).n,vi ((m.seg d.toNat).cards 0),vi ((m.seg d.toNat).cards 1),vi ((m.seg d.toNat).cards 2),vi ((m.seg d.toNat).cards 3)]:=by
      have a:=λj (y:j<72)=>(h.ext g).at (j:=j) q y
      simp only[aL,CH]
      exact⟨a 0 (by omega),a 1 (by omega),a 2 (by omega),a 3 (by omega),a 4 (by omega),a 5 (by omega),a 6 (by omega),EO⟩
    refine⟨_,_,_,_,_,_,_,f,?_⟩
    obtain⟨p,s⟩:=boxed (vs:=[vi (m.seg d.toNat).gen,vi (m.seg d.toNat).kind,vi (m.seg d.toNat).n,vi ((m.seg d.toNat).cards 0),vi ((m.seg d.toNat).cards 1),vi ((m.seg d.toNat).cards 2),vi ((m.seg d.toNat).cards 3)]) (H1:=i) t rfl rfl
    refine⟨p,λl c=>?_⟩
    obtain⟨r,o⟩:=s l c
    refine⟨_,_,_,_,_,_,_,r,u _ _ ⟨?_,o H g (by omega)⟩⟩
    rw[qB hk,zX hk];rfl
  · rw[za hk,CP]
    obtain⟨p,s⟩:=boxed (vs:=[vi 0,vi 0,vi 0,vi 0,vi 0,vi 0,vi 0]) (H1:=i) t rfl rfl
    refine⟨p,λl c=>?_⟩
    obtain⟨r,o⟩:=s l c
    refine⟨_,_,_,_,_,_,_,r,u _ _ ⟨?_,o H g (by omega)⟩⟩
    rw[za hk,zQ hk];rfl
def Mem.used(m:Mem)(a:Int):Prop:=0<=a/\m.has (a / 64)/\a % 64< (m.seg (a / 64).toNat).n
instance (m:Mem) (a:Int):Decidable (m.used a):=by unfold Mem.used;infer_instance
def Mem.get(m:Mem)(a:Int):Int:=(m.seg (a / 64).toNat).words (a % 64).toNat
def Seg.set(s:Seg)(i:Nat)(w:Int):Seg:={s with words:=λj=>if j=i then w else s.words j}
def Mem.set(m:Mem)(a w:Int):Mem:=m.upd (a / 64).toNat ((m.seg (a / 64).toNat).set (a % 64).toNat w)
theorem pO(h:cS H k A j)(l:bD j)(i:d<=9223372036854775807):
    gS.C (some ⟨k,0,none⟩) d H (λv f=>v=vp (if j.used d then some ⟨A,(d / 64).toNat*72+(8+(d % 64).toNat),none⟩else none)/\f=H):=by
  refine HC.via λR b=>gS.link ?_
  unfold gS.pt zY
  by_cases e:d<0
  · rw[qB e];exact b _ _ ⟨by rw[za (λa=>by have:=a.1;omega)],rfl⟩
  rw[za e,jw (by omega),xT (n:=d / 64) (by omega),jx (by omega)]
  refine HC.mono (mQ h) ?_
  rintro _ g ⟨rfl,rfl⟩
  refine⟨_,rfl,?_⟩
  by_cases hk:j.has (d / 64)
  · rw[qB hk,CK]
    have c:(d / 64).toNat<j.limit:=by have:=hk.1;have:=hk.2.1;omega
    refine⟨(j.seg (d / 64).toNat).n,by rw[CH];exact h.at c (by omega),?_⟩
    by_cases hn:d % 64>=(j.seg (d / 64).toNat).n
    · rw[qB hn];exact b _ _ ⟨by rw[za (λa=>by have:=a.2.2;omega)],rfl⟩
    · rw[za hn]
      refine⟨⟨by omega,by omega⟩,b _ _ ⟨?_,rfl⟩⟩
      rw[qB ⟨by omega,hk,by omega⟩]
      simp only[CH,Dd]
      rw[Nat.add_assoc]
  · rw[za hk,CP];exact b _ _ ⟨by rw[za (λa=>hk a.2.1)],rfl⟩
theorem jX(h:cS H k A j)(g:bD j)(f:d<=9223372036854775807):
    cG.C (some ⟨k,0,none⟩) d H (λv e=>v=(if j.used d then .tuple #[vu (j.get d),vi 0]else .tuple #[vu 0,vi 18])/\e=H):=by
  refine HC.via λR c=>cG.link ?_
  unfold cG.pt
  refine HC.mono (pO h g f) ?_
  rintro _ i ⟨rfl,rfl⟩
  refine⟨_,rfl,?_⟩
  by_cases a:j.used d
  · rw[qB a,CK]
    have b:(d / 64).toNat<j.limit:=by have:=a.2.1.1;have:=a.2.1.2.1;omega
    refine⟨j.get d,?_,c _ _ ⟨by rw[qB a],rfl⟩⟩
    rw[h.at b (by omega),show 8+(d % 64).toNat=(d % 64).toNat+8 by omega];rfl
  · rw[za a,CP];exact c _ _ ⟨by rw[za a],rfl⟩
theorem Seg.set_cell(s:Seg)(i:Nat)(w:Int):(s.set i w).cell (8+i)=vu w:=by
  rw[show 8+i=i+8 by omega];simp[Seg.cell,Seg.set]
theorem Seg.set_cell_other(s:Seg)(i:Nat)(w:Int): ∀j,j≠8+i->(s.set i w).cell j=s.cell j
  | 0,_ | 1,_ | 2,_ | 3,_ | 4,_ | 5,_ | 6,_ | 7,_=>rfl
  | j+8,h=>by simp[Seg.cell,Seg.set];intro e;omega
theorem iQ{m:Mem}(h:cS H k A m)(q:bD m)(n:d<=9223372036854775807):
    bU.C (some ⟨k,0,none⟩) d i H (λv e=>v=vi (if m.used d then 0 else 18)/\cS e k A (if m.used d then m.set d i else m)/\Fr [A] H e):=by
  refine HC.via λR f=>bU.link ?_
  unfold bU.pt
  refine HC.mono (pO h q n) ?_
  rintro _ r ⟨rfl,rfl⟩
  refine⟨_,rfl,?_⟩
  by_cases a:m.used d
  · rw[qB a,CK]
    have b:(d / 64).toNat<m.limit:=by have:=a.2.1.1;have:=a.2.1.2.1;omega
    refine⟨h.canPuts b (by omega),λt c=>?_⟩
    subst c
    obtain⟨g,l⟩:=h.put (v:=vu i) (s:=(m.seg (d / 64).toNat).set (d % 64).toNat i) b (o:=8+(d % 64).toNat) (by omega) (Seg.set_cell _ _ _) (λj _ p=>Seg.set_cell_other _ _ _ j p)
    exact f _ _ ⟨by rw[qB a],by rw[qB a];exact g,l⟩
  · rw[za a,CP];exact f _ _ ⟨by rw[za a],by rw[za a];exact h,Fr.refl _ _⟩
def Seg.bump(s:Seg)(d:Int):Seg:={s with n:=s.n+d}
def Mem.bump(m:Mem)(k d:Int):Mem×Int×Int:=
  if ¬m.has k then(m,0,19)
  else if d<1 then(m,0,1)
  else if 64-(m.seg k.toNat).n<d then(m,0,2)
  else(m.upd k.toNat ((m.seg k.toNat).bump d),k*64+(m.seg k.toNat).n,0)
theorem pP(h:cS H k A j)(r:bD j):
    gU.C (some ⟨k,0,none⟩) d i H (λv l=>v=.tuple #[vi (j.bump d i).2.1,vi (j.bump d i).2.2]/\cS l k A (j.bump d i).1/\Fr [A] H l):=by
  refine HC.via λR b=>gU.link ?_
  unfold gU.pt zY
  refine HC.mono (mQ h) ?_
  rintro _ t ⟨rfl,rfl⟩
  refine⟨_,rfl,?_⟩
  by_cases hk:j.has d
  · rw[qB hk,CK]
    have a:d.toNat<j.limit:=by have:=hk.1;have:=hk.2.1;omega
    have q:=r.lim
    have y:=(r.seg d.toNat).n
    have B:=hk.1
    by_cases f:i<1
    · rw[qB f]
      have e:j.bump d i=(j,0,1):=by unfold Mem.bump;rw[za (λg=>g hk),qB f]
      rw[e]at b
      exact b _ _ ⟨rfl,h,Fr.refl _ _⟩
    rw[za f]
    have hn:hat t (Addr.add ⟨A,d.toNat*72,none⟩ 2)=some (vi (j.seg d.toNat).n):=by rw[CH];exact h.at a (by omega)
    refine⟨_,hn,?_⟩
    rw[xT (n:=64-(j.seg d.toNat).n) (by omega)]
    by_cases p:i>64-(j.seg d.toNat).n
    · rw[qB p]
      have e:j.bump d i=(j,0,2):=by unfold Mem.bump;rw[za (λg=>g hk),za f,qB (by omega)]
      rw[e]at b
      exact b _ _ ⟨rfl,h,Fr.refl _ _⟩
    rw[za p]
    have e:j.bump d i=(j.upd d.toNat ((j.seg d.toNat).bump i),d*64+(j.seg d.toNat).n,0):=by unfold Mem.bump;rw[za (λg=>g hk),za f,za (by omega)]
    rw[e]at b
    refine⟨_,hn,by rw[CH];exact h.canPuts a (by omega),λz c=>?_⟩
    rw[CH,xT (n:=(j.seg d.toNat).n+i) (by omega)]at c
    subst c
    obtain⟨m,u⟩:=h.put (v:=vi ((j.seg d.toNat).n+i)) (s:=(j.seg d.toNat).bump i) a (o:=2) (by omega) rfl (λD _ w=>by
      match D,w with
      | 0,_ | 1,_ | 3,_ | 4,_ | 5,_ | 6,_ | 7,_=>rfl
      | 2,h=>exact absurd rfl h
      | D+8,_=>rfl)
    refine⟨(j.seg d.toNat).n+i,?_,b _ _ ⟨?_,m,u⟩⟩
    · rw[CH,m.at a (by omega),Dy];rfl
    · have x:d<1024:=by have:=hk.2.1;omega
      rw[xT (n:=d*64) (by omega),xT (n:=d*64+((j.seg d.toNat).n+i)) (by omega),xT (by omega)]
      rw[show d*64+((j.seg d.toNat).n+i)-i=d*64+(j.seg d.toNat).n by omega]
  · rw[za hk,CP]
    have e:j.bump d i=(j,0,19):=by unfold Mem.bump;rw[qB hk]
    rw[e]at b
    exact b _ _ ⟨rfl,h,Fr.refl _ _⟩
def Seg.mark(s:Seg)(c:Nat)(v:Int):Seg:={s with cards:=λi=>if i=c then v else s.cards i}
def Mem.mark(m:Mem)(k c v:Int):Mem×Int:=
  if ¬m.has k then(m,19)
  else if c<0\/4<=c\/v<0\/5<v then(m,1)
  else(m.upd k.toNat ((m.seg k.toNat).mark c.toNat v),0)
theorem pQ{x:Int}(h:cS H k A j):
    gV.C (some ⟨k,0,none⟩) d i x H (λv g=>v=vi (j.mark d i x).2/\cS g k A (j.mark d i x).1/\Fr [A] H g):=by
  refine HC.via λR a=>gV.link ?_
  unfold gV.pt
  refine HC.mono (mQ h) ?_
  rintro _ q ⟨rfl,rfl⟩
  refine⟨_,rfl,?_⟩
  by_cases hk:j.has d
  · rw[qB hk,CK]
    have c:d.toNat<j.limit:=by have:=hk.1;have:=hk.2.1;omega
    by_cases l:i<0\/4<=i\/x<0\/5<x
    · rw[qB (by simp;omega)]
      have e:j.mark d i x=(j,1):=by unfold Mem.mark;rw[za (λf=>f hk),qB l]
      rw[e]at a
      exact a _ _ ⟨rfl,h,Fr.refl _ _⟩
    · rw[za (by simp;omega)]
      have e:j.mark d i x=(j.upd d.toNat ((j.seg d.toNat).mark i.toNat x),0):=by unfold Mem.mark;rw[za (λf=>f hk),za l]
      rw[e]at a
      simp only[CH,Dd]
      refine⟨⟨by omega,by omega⟩,by rw[Nat.add_assoc];exact h.canPuts c (by omega),λr b=>?_⟩
      rw[Nat.add_assoc]at b
      subst b
      obtain⟨m,n⟩:=h.put (v:=vi x) (s:=(j.seg d.toNat).mark i.toNat x) c (o:=3+i.toNat) (by omega) (by
          have:i.toNat=0\/i.toNat=1\/i.toNat=2\/i.toNat=3:=by omega
          rcases this with e | e | e | e<;>rw[e]<;>rfl) (λt _ p=>by
        match t,p with
        | 0,_ | 1,_ | 2,_ | 7,_=>rfl
        | 3,h | 4,h | 5,h | 6,h=>simp only[Seg.cell,Seg.mark];rw[za (by omega)]
        | t+8,_=>rfl)
      exact a _ _ ⟨rfl,m,n⟩
  · rw[za hk,CP]
    have e:j.mark d i x=(j,19):=by unfold Mem.mark;rw[qB hk]
    rw[e]at a
    exact a _ _ ⟨rfl,h,Fr.refl _ _⟩
def Mem.first(m:Mem):Nat:=((List.range m.limit).find? (λk=>(m.seg k).taken==0)).getD 0
theorem Mem.first_eq(hk:k<j.limit)(a:(j.seg k).taken=0)(b: ∀d,d<k->(j.seg d).taken≠0):j.first=k:=by
  unfold Mem.first
  have:(List.range j.limit).find? (λk=>(j.seg k).taken==0)=some k:=by
    rw[List.find?_range_eq_some]
    refine⟨by simp[a],by simp[hk],λd c=>by simpa using b d c⟩
  rw[this];rfl
def Mem.take(m:Mem)(gen kind:Int):Mem×Int×Int:=
  if gen<0\/4<gen\/kind<0\/3<kind then(m,0,1)
  else if m.free=0 then(m,0,2)
  else({m with count:=m.count+1,free:=m.free-1}.upd m.first (Seg.new gen kind (m.count+1)),m.first,0)
theorem vQ(b a t:Int): ∃vs:List Value,vs=([vi b,vi a,vi 0,vi 5,vi 5,vi 5,vi 5,vi t]++List.replicate 64 (vu 0):List Value)/\vs.length=72/\ ∀j,j<72->vs[j]?=some ((Seg.new b a t).cell j):=by
  refine⟨_,rfl,by simp,λj c=>?_⟩
  match j,c with
  | 0,_ | 1,_ | 2,_ | 3,_ | 4,_ | 5,_ | 6,_ | 7,_=>rfl
  | j+8,c=>
    rw[List.getElem?_append_right (by simp)]
    simp only[List.length_cons,List.length_nil]
    rw[List.getElem?_replicate,qB (by omega)];rfl
theorem qW: ∃z:Array Value,z=(List.replicate 8 (vi 0)++List.replicate 64 (vu 0):List Value).toArray/\z.size=72/\ ∀j,j<72->z[j]?=some (Seg.none.cell j):=by
  refine⟨_,rfl,by simp,λj a=>?_⟩
  rw[List.getElem?_toArray]
  match j,a with
  | 0,_ | 1,_ | 2,_ | 3,_ | 4,_ | 5,_ | 6,_ | 7,_=>rfl
  | j+8,a=>
    rw[List.getElem?_append_right (by simp)]
    simp only[EK]
    rw[List.getElem?_replicate,qB (by omega)];rfl
theorem tV{q:Nat}(h:cS H A q j)(p:bD j)(hc:j.count<4611686018427387904):
    iI.C (some ⟨A,0,none⟩) d i H (λv z=>v=.tuple #[vi (j.take d i).2.1,vi (j.take d i).2.2]/\cS z A q (j.take d i).1/\Fr [A,q] H z):=by
  refine HC.via λR m=>iI.link ?_
  unfold iI.pt zY
  rw[CK]
  have U:=p.lim
  have a:(d<0\/4<d\/i<0\/3<i)->R (.tuple #[vi 0,vi 1]) H:=λK=>by
    have e:j.take d i=(j,0,1):=by unfold Mem.take;rw[qB K]
    rw[e]at m
    exact m _ _ ⟨rfl,h,Fr.refl _ _⟩
  by_cases F:d<0
  · rw[qB F];exact a (.inl F)
  rw[za F]
  by_cases G:d>4
  · rw[qB G];exact a (.inr (.inl G))
  rw[za G]
  by_cases I:i<0
  · rw[qB I];exact a (.inr (.inr (.inl I)))
  rw[za I]
  by_cases J:i>3
  · rw[qB J];exact a (.inr (.inr (.inr J)))
  rw[za J]
  refine⟨_,_,_,h.segsAt.choose_spec,?_⟩
  rw[za (by omega)]
  refine⟨j.free,by rw[CH];exact h.freeAt,?_⟩
  by_cases r:j.free=0
  · rw[qB r]
    have e:j.take d i=(j,0,2):=by unfold Mem.take;rw[za (by omega),qB r]
    rw[e]at m
    exact m _ _ ⟨rfl,h,Fr.refl _ _⟩
  rw[za r]
  have O:j.nfree≠0:=λe=>r (by rw[p.free,e];rfl)
  have N:=Mem.nfree_pos O
  have L:j.free<=1024:=by
    rw[p.free]
    have:j.nfree<=(List.range j.limit).length:=EF
    simp at this
    omega
  have D:0<=j.free:=by rw[p.free];omega
  refine⟨λk z=>z=H/\0<=k/\ ∀ab:Nat,ab<k.toNat->(j.seg ab).taken≠0,λk _=>(1024-k).toNat,⟨rfl,by omega,λab l=>by simp at l⟩,?_⟩
  rintro k X ⟨rfl,V,l⟩
  obtain⟨W,a3,M⟩:=N
  have c:k.toNat<j.limit:=by
    rcases C6 W k.toNat with h | h
    · exact absurd M (l W h)
    · omega
  refine⟨_,_,_,h.segsAt.choose_spec,_,rfl,⟨V,by omega⟩,(j.seg k.toNat).taken,by simp only[CH,CQ];exact h.at c (by omega),?_⟩
  have ht:=(p.seg k.toNat).taken
  by_cases x:(j.seg k.toNat).taken>0
  · rw[qB x,xT (n:=k+1) (by omega)]
    refine⟨⟨rfl,by omega,λab a2=>?_⟩,by show(1024-(k+1)).toNat< (1024-k).toNat;omega⟩
    by_cases e:ab=k.toNat
    · subst e;omega
    · exact l ab (by omega)
  rw[za x]
  have y:(j.seg k.toNat).taken=0:=by omega
  have b:j.first=k.toNat:=Mem.first_eq c y l
  have T:=p.count
  refine⟨j.count,by rw[CH];exact h.countAt,by rw[CH];exact cR h.mem.choose_spec _ _ _ (by simp),λY f=>?_⟩
  rw[CH,bY _ _ _ _ _ h.mem.choose_spec,xT (n:=j.count+1) (by omega)]at f
  have E:Y[A]?=some (.cells #[.slice (some ⟨q,0,none⟩) j.limit h.mem.choose,vi (j.count+1),vi j.free] 157 (0,0)):=by rw[f,aT h.lt.1];rfl
  refine⟨j.free,by rw[CH,aI E];rfl,by rw[CH];exact cR E _ _ _ (by simp),λP g=>?_⟩
  rw[CH,bY _ _ _ _ _ E,xT (n:=j.free-1) (by omega),f,nM]at g
  have B:cS P A q {j with count:=j.count+1,free:=j.free-1}:=by
    subst g
    obtain⟨Z,K,hr⟩:=h.segs
    exact⟨⟨h.mem.choose,by rw[aT h.lt.1];rfl⟩,h.ne,Z,by rw[iY h.ne];exact K,hr⟩
  have f3:Fr [A] X P:=by subst g;exact Fr.set
  refine⟨_,_,_,B.segsAt.choose_spec,j.count+1,by rw[CH];exact B.countAt,_,rfl,⟨V,by show k< (j.limit:Int);omega⟩,?_⟩
  simp only[CH,CQ]
  have u:=B.canPuts (k:=k.toNat) (o:=0) (n:=72) c (by omega)
  rw[Nat.add_zero]at u
  refine⟨u,λH4 t=>?_⟩
  obtain⟨vs,AK,hl,hg⟩:=vQ d i (j.count+1)
  rw[<-AK]at t
  obtain⟨S,Q⟩:=B.puts (k:=k.toNat) (o:=0) (vs:=vs) (s:=Seg.new d i (j.count+1)) c (by omega) (λab l=>by rw[CQ];exact hg ab (by omega)) (λab l ho=>by omega)
  rw[Nat.add_zero]at S Q
  have e:j.take d i=({j with count:=j.count+1,free:=j.free-1}.upd k.toNat (Seg.new d i (j.count+1)),k,0):=by
    unfold Mem.take
    rw[za (by omega),za r,b,show((k.toNat:Nat):Int)=k by omega]
  rw[e]at m
  subst t
  exact m _ _ ⟨rfl,S,(f3.trans' Q (λaa w _=>by simp at w;simp[w]) (λaa w _=>by simp at w;simp[w]))⟩
def Mem.fresh(limit:Nat):Mem:=⟨limit,λ_=>Seg.none,0,limit⟩
theorem nB:uE Seg.none:=⟨by decide,by decide,by decide,λ_=>(by decide:(0:Int)<=0/\(0:Int)<=5),by decide,λ_=>(by decide:aD 0)⟩
theorem sL(h:8<=k/\k<=1024):bD (Mem.fresh k):=
  ⟨h,λ_=>nB,by
    show(k:Int)=_
    unfold Mem.nfree
    have:(List.range k).countP (λa=>((Mem.fresh k).seg a).taken==0)=(List.range k).length:=List.countP_eq_length.2 (λ_ _=>rfl)
    show(k:Int)=(((List.range k).countP (λa=>((Mem.fresh k).seg a).taken==0):Nat):Int)
    rw[this];simp,Dq _⟩
theorem uR(A:Ah d):
    lE.C d H (λv e=>(¬(8<=d/\d<=1024)/\v=.tuple #[vp none,vi 1]/\e=H)\/
      ((8<=d/\d<=1024)/\ ∃f g,v=.tuple #[vp (some ⟨f,0,none⟩),vi 0]/\cS e f g (Mem.fresh d.toNat)/\Ext H e/\H.size<=g/\g<f)):=by
  refine HC.via λR p=>lE.link ?_
  unfold lE.pt
  by_cases h:8<=d/\d<=1024
  · rw[za (by simp;omega)]
    obtain⟨z,s,r,u⟩:=qW
    rw[<-s]
    refine⟨by omega,by omega,by omega,by omega,λb x q a m y i c=>p _ _ (.inr ⟨h,m,b,rfl,?_,(CI a).trans (CI c),by omega,?_⟩)⟩
    · have o:=aF q a
      have t:=aF i c
      have l:m≠b:=by have:=aS o;omega
      refine⟨⟨d.toNat,?_⟩,l,_,(CI c).get o,?_,?_⟩
      · rw[t]
        show _=some (Obj.cells #[vs (some ⟨b,0,none⟩) d.toNat d.toNat,vi 0,vi ((d.toNat:Nat):Int)] _ _)
        rw[show((d.toNat:Nat):Int)=d by omega]
      · rw[lL,r];exact CU _
      · intro k hk j w
        have:=nj (z:=z) (n:=d.toNat) (k:=k) (j:=j) hk (by omega)
        rw[r]at this
        rw[this,u j w];rfl
    · have:=aS (aF q a);omega
  · rw[qB (by simp;omega)]
    exact p _ _ (.inl ⟨h,rfl,rfl⟩)
theorem bD.bump(a:bD j)(k d:Int):bD (j.bump k d).1:=by
 unfold Mem.bump
 by_cases hk:j.has k
 ·rw[za (λh=>h hk)]
  by_cases b:d<1
  ·rw[qB b];exact a
  rw[za b]
  by_cases c:64-(j.seg k.toNat).n<d
  ·rw[qB c];exact a
  rw[za c]
  have s:=a.seg k.toNat
  exact a.upd ⟨s.gen,s.kind,by have:=s.n;show 0<=(j.seg k.toNat).n+d/\(j.seg k.toNat).n+d<=64;omega,s.cards,s.taken,s.words⟩ rfl
 ·rw[qB hk];exact a
theorem Mem.bump_lim(m:Mem)(k d:Int):(m.bump k d).1.limit=m.limit/\(m.bump k d).1.count=m.count/\(m.bump k d).1.free=m.free:=by
 unfold Mem.bump
 split
 ·exact⟨rfl,rfl,rfl⟩
 split
 ·exact⟨rfl,rfl,rfl⟩
 split<;>exact⟨rfl,rfl,rfl⟩
theorem Em:type_of% @Mem.bump_lim:=@Mem.bump_lim
theorem Mem.bump_fail(h:(j.bump d i).2.2≠0):(j.bump d i).1=j:=by
 unfold Mem.bump at*
 split
 ·rfl
 ·rename_i a
  rw[za a]at h
  split
  ·rfl
  ·rename_i b
   rw[za b]at h
   split
   ·rfl
   ·rename_i c
    rw[za c]at h
    exact absurd rfl h
theorem Mem.first_spec(g:bD j)(h:j.free≠0):j.first<j.limit/\(j.seg j.first).taken=0:=by
 have b:j.nfree≠0:=λe=>h (by rw[g.free,e];rfl)
 obtain⟨k,hk,c⟩:=Mem.nfree_pos b
 have f:((List.range j.limit).find? (λk=>(j.seg k).taken==0)).isSome=true:=by
  rw[List.find?_isSome];exact⟨k,Dc.2 hk,by simp[c]⟩
 obtain⟨i,a⟩:=D4.1 f
 have d:=List.find?_some a
 have hm:=List.mem_of_find?_eq_some a
 unfold Mem.first
 rw[a]
 exact⟨Dc.1 hm,by simpa using d⟩
theorem El:type_of% @Mem.first_spec:=@Mem.first_spec
theorem bD.take{m:Mem}(c:bD m)(b a:Int):bD (m.take b a).1:=by
 unfold Mem.take
 by_cases f:b<0\/4<b\/a<0\/3<a
 ·rw[qB f];exact c
 rw[za f]
 by_cases d:m.free=0
 ·rw[qB d];exact c
 rw[za d]
 obtain⟨l,j⟩:=El c d
 have n:=c.count
 refine⟨c.lim,λi=>?_,?_,by show 0<=m.count+1;omega⟩
 ·rw[Do]
  by_cases g:i=m.first
  ·rw[qB g]
   exact⟨by show 0<=b/\b<=4;omega,by show 0<=a/\a<=3;omega,(by decide:(0:Int)<=0/\(0:Int)<=64),λ_=>(by decide:(0:Int)<=5/\(5:Int)<=5),by show 0<=m.count+1;omega,λ_=>(by decide:aD 0)⟩
  ·rw[za g];exact c.seg i
 ·show m.free-1=_
  have e:=Mem.nfree_take (m:=m) (k:=m.first) (s:=Seg.new b a (m.count+1)) l j (by show m.count+1≠0;omega)
  have h:({m with count:=m.count+1,free:=m.free-1}.upd m.first (Seg.new b a (m.count+1))).nfree=(m.upd m.first (Seg.new b a (m.count+1))).nfree:=rfl
  rw[h,c.free,e];omega
theorem bD.set{m:Mem}(b:bD m)(a:Int){w:Int}(c:aD w):bD (m.set a w):=by
 have s:=b.seg (a / 64).toNat
 refine b.upd ⟨s.gen,s.kind,s.n,s.cards,s.taken,λj=>?_⟩ rfl
 simp only[Seg.set]
 by_cases h:j=(a % 64).toNat
 ·rw[qB h];exact c
 ·rw[za h];exact s.words j
theorem bD.mark{m:Mem}(a:bD m)(k c v:Int):bD (m.mark k c v).1:=by
 unfold Mem.mark
 by_cases hk:m.has k
 ·rw[za (λh=>h hk)]
  by_cases b:c<0\/4<=c\/v<0\/5<v
  ·rw[qB b];exact a
  rw[za b]
  have s:=a.seg k.toNat
  refine a.upd ⟨s.gen,s.kind,s.n,λi=>?_,s.taken,s.words⟩ rfl
  simp only[Seg.mark]
  by_cases h:i=c.toNat
  ·rw[qB h];omega
  ·rw[za h];exact s.cards i
 ·rw[qB hk];exact a
structure Sp where
 mem:Mem
 cur:Nat->Nat->Int
variable{u:Sp}
structure Blk where
 h:Nat
 c:Nat
 sp:Nat
 m:Nat
 s:Nat
variable{z:Blk}
def Blk.all(b:Blk):List Nat:=[b.h,b.c,b.sp,b.m,b.s]
structure SpOK (s:Sp):Prop where
 mem:bD s.mem
 cur: ∀g k,s.cur g k=0\/(1<=s.cur g k/\s.mem.has (s.cur g k-1)/\(s.mem.seg (s.cur g k-1).toNat).gen=g/\(s.mem.seg (s.cur g k-1).toNat).kind=k)
structure SpAt (H:zV) (b:Blk) (s:Sp):Prop where
 mem:cS H b.m b.s s.mem
 ne:b.sp≠b.m/\b.sp≠b.s
 sp: ∃cs:Array Value,H[b.sp]?=some (.cells cs 82 (0,0))/\cs.size=21/\cs[0]?=some (vp (some ⟨b.m,0,none⟩))/\ ∀g k,g<5->k<4->cs[1+g*4+k]?=some (vi (s.cur g k))
theorem SpAt.keep{S:List Nat}(h:SpAt H z u)(f:Fr S H B)(b:z.sp ∉ S)(c:z.m ∉ S)(d:z.s ∉ S):SpAt B z u:=by
 obtain⟨a,e,g⟩:=h.sp
 exact⟨h.mem.keep f c d,h.ne,a,f.get b e,g⟩
theorem SpAt.ext{b:Blk}{s:Sp}(h:SpAt H b s)(f:Ext H B):SpAt B b s:=h.keep (S:=[]) f.fr (by simp) (by simp) (by simp)
theorem SpAt.withMem{S:List Nat}{m:Mem}(h:SpAt H z u)(f:Fr S H B)(b:z.sp ∉ S)(hm:cS B z.m z.s m):SpAt B z {u with mem:=m}:=by
 obtain⟨a,c,d⟩:=h.sp
 exact⟨hm,h.ne,a,f.get b c,d⟩
theorem SpAt.memPtr{s:Sp}(h:SpAt H z s):hat H ⟨z.sp,0,none⟩=some (vp (some ⟨z.m,0,none⟩)):=by
 obtain⟨c,b,_,a,_⟩:=h.sp
 rw[aI b,a]
theorem SpAt.curAt(h:SpAt H z u){g k:Nat}(c:g<5)(hk:k<4):hat H ⟨z.sp,1+g*4+k,none⟩=some (vi (u.cur g k)):=by
 obtain⟨d,a,_,_,b⟩:=h.sp
 rw[aI a,b g k c hk]
def Sp.setCur(s:Sp)(g k:Nat)(v:Int):Sp:={s with cur:=λi j=>if i=g/\j=k then v else s.cur i j}
theorem SpAt.putCur(h:SpAt H z u){g k:Nat}{v:Int}(o:g<5)(hk:k<4):
  aH H ⟨z.sp,1+g*4+k,none⟩ 0 1/\SpAt (aP H ⟨z.sp,1+g*4+k,none⟩ [vi v] 0) z (u.setCur g k v)/\Fr [z.sp] H (aP H ⟨z.sp,1+g*4+k,none⟩ [vi v] 0):=by
 obtain⟨b,a,n,c,d⟩:=h.sp
 refine⟨cR a _ _ _ (by omega),?_⟩
 rw[bY _ H b _ 0 a]
 refine⟨⟨h.mem.keep (S:=[z.sp]) Fr.set (by have:=h.ne;simp;omega) (by have:=h.ne;simp;omega),h.ne,_,aT (aS a),by rw[DK];exact n,?_,λi j f l=>?_⟩,Fr.set⟩
 ·rw[eF _ _ _ _ (by omega)];exact c
 ·simp only[Sp.setCur]
  by_cases e:i=g/\j=k
  ·rw[qB e,e.1,e.2]
   have:=fO b [vi v] (1+g*4+k+0) 0 (by simp;omega) (by simp)
   simpa using this
  ·rw[za e,<-d i j f l]
   rcases C6 (1+i*4+j) (1+g*4+k)with m | m
   ·exact eF _ _ _ _ (by omega)
   ·exact iO _ _ _ _ (by simp;omega)
theorem mt(h:SpAt H z u):cV.C (some ⟨z.sp,0,none⟩) H (λv a=>v=VF/\a=H):=by
 refine HC.via λR b=>cV.link ?_
 unfold cV.pt
 rw[CK]
 refine⟨_,h.memPtr,?_⟩
 rw[CK]
 exact b _ _ ⟨rfl,rfl⟩
def AJ(gen kind n:Int):Prop:=(0<=gen/\gen<=4)/\(((kind=0\/kind=1)/\n=2)\/((kind=2\/kind=3)/\1<=n/\n<=63))
instance (gen kind n:Int):Decidable (AJ gen kind n):=by unfold AJ;infer_instance
theorem sM:ki.C d i v H (λf e=>f=.bool (decide (AJ d i v))/\e=H):=by
 refine HC.via λR a=>ki.link ?_
 unfold ki.pt
 by_cases b:d<0\/d>4
 ·rw[qB (by simpa using b)]
  exact a _ _ ⟨by rw[zQ (λh=>by have:=h.1;omega)],rfl⟩
 rw[za (by simpa using b)]
 by_cases c:i=0\/i=1
 ·rw[qB (by simpa using c)]
  refine a _ _ ⟨?_,rfl⟩
  congr 1
  rw[Ej,CN]
  unfold AJ
  simp only[CN,beq_iff_eq,CZ,Dw]
  omega
 ·rw[za (by simpa using c)]
  refine a _ _ ⟨?_,rfl⟩
  congr 1
  rw[Ej,CN]
  unfold AJ
  simp only[CN,beq_iff_eq,CZ,Dw]
  omega
theorem pj(h:SpAt H z u)(f:SpOK u)(k:0<=d/\d<=4)(hk:0<=i/\i<=3):
  cT.C (some ⟨z.sp,0,none⟩) d i H (λv g=>v=(if u.cur d.toNat i.toNat=0 then .tuple #[vi 0,VF]else .tuple #[vi (u.cur d.toNat i.toNat-1),VT])/\g=H):=by
 refine HC.via λR c=>cT.link ?_
 unfold cT.pt zY
 rw[CK,za (by omega),za (by omega),za (by omega),za (by omega)]
 have e:hat H (Addr.add (Addr.add (Addr.add ⟨z.sp,0,none⟩ 1) (d.toNat*4)) (i.toNat*1))=some (vi (u.cur d.toNat i.toNat)):=by
  simp only[CH,CQ,Dd]
  exact h.curAt (by omega) (by omega)
 refine⟨by omega,by omega,_,e,?_⟩
 by_cases a:u.cur d.toNat i.toNat=0
 ·rw[qB a];exact c _ _ ⟨by rw[qB a],rfl⟩
 ·rw[za a]
  refine⟨by omega,by omega,_,e,c _ _ ⟨?_,rfl⟩⟩
  rw[za a]
  have l:=f.mem.lim
  rcases f.cur d.toNat i.toNat with b | ⟨b,j,_⟩
  ·exact absurd b a
  ·rw[xT (by have:=j.2.1;omega)]
def Sp.alloc(s:Sp)(gen kind n:Int):Sp×Int×Int:=
 if ¬AJ gen kind n then(s,0,1)
 else if s.cur gen.toNat kind.toNat≠0/\(s.mem.bump (s.cur gen.toNat kind.toNat-1) n).2.2=0 then
  ({s with mem:=(s.mem.bump (s.cur gen.toNat kind.toNat-1) n).1},(s.mem.bump (s.cur gen.toNat kind.toNat-1) n).2.1,0)
 else if(s.mem.take gen kind).2.2=0 then
  ({mem:=((s.mem.take gen kind).1.bump (s.mem.take gen kind).2.1 n).1,cur:=(s.setCur gen.toNat kind.toNat ((s.mem.take gen kind).2.1+1)).cur},((s.mem.take gen kind).1.bump (s.mem.take gen kind).2.1 n).2.1,((s.mem.take gen kind).1.bump (s.mem.take gen kind).2.1 n).2.2)
 else(s,0,(s.mem.take gen kind).2.2)
theorem l9{n:Int}(h:SpAt H z u)(p:SpOK u)(x:u.mem.count<4611686018427387904):
  cL.C (some ⟨z.sp,0,none⟩) d i n H (λv q=>v=.tuple #[vi (u.alloc d i n).2.1,vi (u.alloc d i n).2.2]/\SpAt q z (u.alloc d i n).1/\Fr [z.sp,z.m,z.s] H q):=by
 refine HC.via λR j=>cL.link ?_
 unfold cL.pt zY
 refine HC.mono (mt h) ?_
 rintro _ r ⟨rfl,rfl⟩
 refine⟨_,rfl,?_⟩
 rw[za (by decide)]
 refine HC.mono sM ?_
 rintro _ r ⟨rfl,rfl⟩
 refine⟨_,rfl,?_⟩
 by_cases hm:AJ d i n
 case neg=>
  rw[za (by simpa using hm)]
  have e:u.alloc d i n=(u,0,1):=by unfold Sp.alloc;rw[qB hm]
  rw[e]at j
  exact j _ _ ⟨rfl,h,Fr.refl _ _⟩
 rw[qB (zX hm)]
 have Y:=hm.1
 have hk:0<=i/\i<=3:=by have:=hm.2;omega
 refine HC.mono (pj h p Y hk) ?_
 rintro _ r ⟨rfl,rfl⟩
 have K: ∃(F:Int) (D:Bool),(if u.cur d.toNat i.toNat=0 then Value.tuple #[vi 0,VF]else .tuple #[vi (u.cur d.toNat i.toNat-1),VT])=.tuple #[vi F,.bool D]/\((D=false/\u.cur d.toNat i.toNat=0)\/(D=true/\u.cur d.toNat i.toNat≠0/\F=u.cur d.toNat i.toNat-1)):=by
  by_cases f:u.cur d.toNat i.toNat=0
  ·rw[qB f];exact⟨_,_,rfl,.inl ⟨rfl,f⟩⟩
  ·rw[za f];exact⟨_,_,rfl,.inr ⟨rfl,f,rfl⟩⟩
 obtain⟨F,D,Z,X⟩:=K
 refine⟨F,D,Z,?_⟩
 refine⟨λq=>SpAt q z u/\Fr [z.sp,z.m,z.s] r q/\ ¬(u.cur d.toNat i.toNat≠0/\(u.mem.bump (u.cur d.toNat i.toNat-1) n).2.2=0),?_,?_⟩
 ·rcases X with⟨rfl,f⟩ | ⟨rfl,f,rfl⟩
  ·rw[za (by decide)]
   exact⟨h,Fr.refl _ _,λc=>c.1 f⟩
  ·rw[qB rfl]
   refine⟨_,rfl,_,h.memPtr,?_⟩
   refine HC.mono (pP h.mem p.mem) ?_
   rintro _ T ⟨rfl,l,G⟩
   refine⟨_,_,rfl,?_⟩
   have s:Fr [z.sp,z.m,z.s] r T:=G.mono (λa4 b _=>by simp at b;simp[b])
   by_cases w:(u.mem.bump (u.cur d.toNat i.toNat-1) n).2.2=0
   ·rw[qB w]
    have e:u.alloc d i n=({u with mem:=(u.mem.bump (u.cur d.toNat i.toNat-1) n).1},(u.mem.bump (u.cur d.toNat i.toNat-1) n).2.1,0):=by
     unfold Sp.alloc;rw[za (λc=>c hm),qB ⟨f,w⟩]
    rw[e]at j
    exact j _ _ ⟨rfl,h.withMem G (by have:=h.ne;simp;omega) l,s⟩
   ·rw[za w]
    rw[Mem.bump_fail w]at l
    have:=h.withMem G (by have:=h.ne;simp;omega) l
    exact⟨this,s,λc=>w c.2⟩
 rintro H4 ⟨E,V,y⟩
 refine⟨_,rfl,_,E.memPtr,?_⟩
 refine HC.mono (tV E.mem p.mem x) ?_
 rintro _ U ⟨rfl,o,I⟩
 refine⟨_,_,rfl,?_⟩
 have B:z.sp ∉ [z.m,z.s]:=by have:=h.ne;simp;omega
 have t:Fr [z.sp,z.m,z.s] r U:=V.trans (I.mono (λa4 b _=>by simp at b;simp;omega))
 by_cases a:(u.mem.take d i).2.2=0
 ·rw[qB a]
  have W:=E.withMem I B o
  have A:=W.putCur (g:=d.toNat) (k:=i.toNat) (v:=(u.mem.take d i).2.1+1) (by omega) (by omega)
  have O: -9223372036854775808<=(u.mem.take d i).2.1+1/\(u.mem.take d i).2.1+1<=9223372036854775807:=by
   have hl:=p.mem.lim
   unfold Mem.take at a⊢
   rw[za (by omega)]at a⊢
   by_cases L:u.mem.free=0
   ·rw[qB L]at a;exact absurd a (show ¬((2:Int)=0)by decide)
   ·rw[za L]
    have:=(El p.mem L).1
    show-9223372036854775808<=(u.mem.first:Int)+1/\(u.mem.first:Int)+1<=_
    omega
  simp only[CH,CQ,Dd]
  rw[xT O]
  refine⟨by omega,by omega,A.1,λH6 J=>?_⟩
  subst J
  refine⟨_,A.2.1.memPtr,?_⟩
  refine HC.mono (pP A.2.1.mem (p.mem.take d i)) ?_
  rintro _ H7 ⟨rfl,M,P⟩
  refine⟨_,_,rfl,?_⟩
  have e:u.alloc d i n=({mem:=((u.mem.take d i).1.bump (u.mem.take d i).2.1 n).1,cur:=(u.setCur d.toNat i.toNat ((u.mem.take d i).2.1+1)).cur},((u.mem.take d i).1.bump (u.mem.take d i).2.1 n).2.1,((u.mem.take d i).1.bump (u.mem.take d i).2.1 n).2.2):=by
   unfold Sp.alloc;rw[za (λc=>c hm),za y,qB a]
  rw[e]at j
  refine j _ _ ⟨rfl,A.2.1.withMem P (by have:=h.ne;simp;omega) M,?_⟩
  exact(t.trans (A.2.2.mono (λa4 b _=>by simp at b;simp[b]))).trans (P.mono (λa4 b _=>by simp at b;simp[b]))
 ·rw[za a]
  have e:u.alloc d i n=(u,0,(u.mem.take d i).2.2):=by
   unfold Sp.alloc;rw[za (λc=>c hm),za y,za a]
  rw[e]at j
  have N:(u.mem.take d i).1=u.mem:=by
   unfold Mem.take at a⊢
   by_cases Q:d<0\/4<d\/i<0\/3<i
   ·rw[qB Q]
   rw[za Q]at a⊢
   by_cases S:u.mem.free=0
   ·rw[qB S]
   ·rw[za S]at a;exact absurd rfl a
  rw[N]at o
  exact j _ _ ⟨rfl,E.withMem I B o,t⟩
theorem sO(q:Ah d):
  kh.C d H (λv c=>(¬(8<=d/\d<=1024)/\v=.tuple #[vp none,vi 1]/\Ext H c)\/
   ((8<=d/\d<=1024)/\ ∃b:Blk,v=.tuple #[vp (some ⟨b.sp,0,none⟩),vi 0]/\SpAt c b ⟨Mem.fresh d.toNat,λ_ _=>0⟩/\Ext H c/\H.size<=b.s/\b.s<b.m/\b.m<b.sp)):=by
 refine HC.via λR j=>kh.link ?_
 unfold kh.pt
 refine HC.mono (uR q) ?_
 rintro _ u (⟨hn,rfl,rfl⟩ | ⟨t,e,i,rfl,hm,l,h,f⟩)
 ·refine⟨_,_,rfl,?_⟩
  rw[za (by decide)]
  exact j _ _ (.inl ⟨hn,rfl,CW _⟩)
 ·refine⟨_,_,rfl,?_⟩
  rw[qB rfl]
  intro b w p a
  have r:=hm.lt
  refine j _ _ (.inr ⟨t,⟨0,0,b,e,i⟩,rfl,?_,l.trans (CI a),h,f,by show e<b;omega⟩)
  refine⟨hm.ext (CI a),⟨by show b≠e;omega,by show b≠i;omega⟩,_,aF p a,rfl,rfl,λg k x hk=>?_⟩
  have o:g=0\/g=1\/g=2\/g=3\/g=4:=by omega
  have n:k=0\/k=1\/k=2\/k=3:=by omega
  rcases o with rfl | rfl | rfl | rfl | rfl<;>rcases n with rfl | rfl | rfl | rfl<;>rfl
theorem tW(h:8<=k/\k<=1024):SpOK ⟨Mem.fresh k,λ_ _=>0⟩:=⟨sL h,λ_ _=> .inl rfl⟩
structure CdAt (H:zV) (b:Blk) (s:Sp):Prop where
 sp:SpAt H b s
 ne:b.c≠b.sp/\b.c≠b.m/\b.c≠b.s
 c:H[b.c]?=some (.cells #[vp (some ⟨b.sp,0,none⟩)] 54 (0,0))
theorem CdAt.keep{S:List Nat}(h:CdAt H z u)(f:Fr S H B)(e:z.c ∉ S)(a:z.sp ∉ S)(b:z.m ∉ S)(d:z.s ∉ S):CdAt B z u:=
 ⟨h.sp.keep f a b d,h.ne,f.get e h.c⟩
theorem CdAt.ext{b:Blk}{s:Sp}(h:CdAt H b s)(f:Ext H B):CdAt B b s:=h.keep (S:=[]) f.fr (by simp) (by simp) (by simp) (by simp)
theorem CdAt.withSp{S:List Nat}{a:Sp}(h:CdAt H z u)(f:Fr S H B)(b:z.c ∉ S)(d:SpAt B z a):CdAt B z a:=⟨d,h.ne,f.get b h.c⟩
theorem CdAt.cPtr{s:Sp}(h:CdAt H z s):hat H ⟨z.c,0,none⟩=some (vp (some ⟨z.sp,0,none⟩)):=by rw[aI h.c];rfl
theorem CdAt.withMem{m:Mem}{S:List Nat}(h:CdAt H z u)(f:Fr S H B)(b: ∀i,i∈S->i=z.m\/i=z.s)(hm:cS B z.m z.s m):CdAt B z {u with mem:=m}:=
 h.withSp f (λa=>by have:=b _ a;have:=h.ne;omega) (h.sp.withMem f (λa=>by have:=b _ a;have:=h.sp.ne;omega) hm)
theorem lU(h:CdAt H z u):cU.C (some ⟨z.c,0,none⟩) H (λv a=>v=VF/\a=H):=by
 refine HC.via λR b=>cU.link ?_
 unfold cU.pt
 rw[CK]
 refine⟨_,h.cPtr,?_⟩
 rw[CK]
 refine⟨_,h.cPtr,_,rfl,_,h.sp.memPtr,?_⟩
 rw[CK]
 exact b _ _ ⟨rfl,rfl⟩
def gM(w:Int):Prop:=(w % 8=1\/w % 8=2\/w % 8=3\/w % 8=6)/\w / 8<65536
instance (w:Int):Decidable (gM w):=by unfold gM;infer_instance
def Mem.genOf(m:Mem)(w:Int):Int×Bool:=if gM w/\w % 8≠6 then((if m.has (w / 8 / 64)then(m.seg (w / 8 / 64).toNat).gen else 0),decide (m.has (w / 8 / 64)))else(0,false)
theorem pR(h:CdAt H z u)(w:aD d):eD.C (some ⟨z.c,0,none⟩) d H (λv y=>v=.tuple #[vi (u.mem.genOf d).1,.bool (u.mem.genOf d).2]/\Ext H y):=by
 refine HC.via λR f=>eD.link ?_
 unfold eD.pt zY
 refine HC.mono (jW w) ?_
 rintro _ H1 ⟨rfl,i⟩
 have t: ∃(a:Int) (p:Bool),(if(d % 8=1\/d % 8=2\/d % 8=3\/d % 8=6)/\d / 8<65536 then Value.tuple #[vi (d / 8),VT]else .tuple #[vi 0,VF])=.tuple #[vi a,.bool p]/\((gM d/\p=true/\a=d / 8)\/(¬gM d/\p=false)):=by
  by_cases b:(d % 8=1\/d % 8=2\/d % 8=3\/d % 8=6)/\d / 8<65536
  ·rw[qB b];exact⟨_,_,rfl,.inl ⟨b,rfl,rfl⟩⟩
  ·rw[za b];exact⟨_,_,rfl,.inr ⟨b,rfl⟩⟩
 obtain⟨a,p,t,J⟩:=t
 refine⟨a,p,t,?_⟩
 refine HC.mono (lU (h.ext i)) ?_
 rintro _ M ⟨rfl,rfl⟩
 refine⟨_,rfl,?_⟩
 rw[za (by decide)]
 rcases J with⟨o,rfl,rfl⟩ | ⟨o,rfl⟩
 case inr=>
  rw[za (by decide)]
  have e:u.mem.genOf d=(0,false):=by unfold Mem.genOf;rw[za (λb=>o b.1)]
  rw[e]at f
  exact f _ _ ⟨rfl,i⟩
 rw[qB rfl]
 refine HC.mono (fZ w) ?_
 rintro _ N ⟨rfl,q⟩
 refine⟨_,rfl,?_⟩
 by_cases m:d % 8=6
 ·rw[qB m]
  have e:u.mem.genOf d=(0,false):=by unfold Mem.genOf;rw[za (λb=>b.2 m)]
  rw[e]at f
  exact f _ _ ⟨rfl,i.trans q⟩
 rw[za m]
 have r:=h.ext (i.trans q)
 have L:d / 8<65536:=o.2
 have x:0<=d / 8:=by have:=w.1;omega
 refine⟨_,rfl,_,r.cPtr,_,rfl,_,r.sp.memPtr,?_⟩
 rw[jw x,xT (by omega)]
 refine HC.mono (kY r.sp.mem) ?_
 rintro _ A ⟨rfl,E⟩
 have e:u.mem.genOf d=((if u.mem.has (d / 8 / 64)then u.mem.seg (d / 8 / 64).toNat else Seg.none).gen,decide (u.mem.has (d / 8 / 64))):=by
  unfold Mem.genOf;rw[qB ⟨o,m⟩];by_cases b:u.mem.has (d / 8 / 64)
  ·rw[qB b,qB b]
  ·rw[za b,za b];rfl
 rw[e]at f
 generalize (if u.mem.has (d / 8 / 64)then u.mem.seg (d / 8 / 64).toNat else Seg.none)=g at f
 refine⟨_,_,_,_,_,_,_,_,rfl,λO B G k=>?_⟩
 obtain⟨I,K⟩:=boxed (vs:=[vi g.gen,vi g.kind,vi g.n,vi (g.cards 0),vi (g.cards 1),vi (g.cards 2),vi (g.cards 3)]) (H1:=B) (aF G k) rfl rfl
 refine⟨I,λD s=>?_⟩
 obtain⟨l,F⟩:=K D s
 have j:Ext H A:=(i.trans q).trans E
 exact⟨_,by have:=l.1;rw[CH]at this;exact this,f _ _ ⟨rfl,F H (j.trans (CI k)) (by have:=j.size;omega)⟩⟩
def Mem.younger(m:Mem)(sg:Seg)(w mark:Int):Int:=if(m.genOf w).2=true/\sg.kind≠3/\(m.genOf w).1<sg.gen then min mark (m.genOf w).1 else mark
theorem mR{sg:Seg}(h:CdAt H z u)(t:aD d):
  cP.C (some ⟨z.c,0,none⟩) sg.gen sg.kind sg.n (sg.cards 0) (sg.cards 1) (sg.cards 2) (sg.cards 3) d i H (λv p=>v=vi (u.mem.younger sg d i)/\Ext H p):=by
 refine HC.via λR j=>cP.link ?_
 unfold cP.pt
 intro y q s e
 have l:Ext H q:=CI e
 have r:=aF s e
 refine HC.mono (pR (h.ext l) t) ?_
 rintro _ x ⟨rfl,m⟩
 have a:=l.trans m
 have o:=m.get r
 refine⟨_,_,rfl,?_⟩
 by_cases b:(u.mem.genOf d).2=true
 case neg=>
  rw[za b]
  exact j _ _ ⟨by unfold Mem.younger;rw[za (λf=>b f.1)],a⟩
 rw[qB b]
 refine⟨sg.kind,by rw[CH,aI o];rfl,?_⟩
 by_cases hk:sg.kind=3
 ·rw[qB hk];exact j _ _ ⟨by unfold Mem.younger;rw[za (λf=>f.2.1 hk)],a⟩
 rw[za hk]
 refine⟨sg.gen,by rw[aI o];rfl,?_⟩
 by_cases k:(u.mem.genOf d).1<sg.gen
 ·rw[qB k]
  refine j _ _ ⟨?_,a⟩
  have g:(if(u.mem.genOf d).1<i then(u.mem.genOf d).1 else i)=min i (u.mem.genOf d).1:=by
   by_cases hm:(u.mem.genOf d).1<i
   ·rw[qB hm];omega
   ·rw[za hm];omega
  have w:u.mem.younger sg d i=min i (u.mem.genOf d).1:=by
   unfold Mem.younger;rw[qB (show(u.mem.genOf d).2=true/\sg.kind≠3/\(u.mem.genOf d).1<sg.gen from⟨b,hk,k⟩)]
  rw[g,w]
 ·rw[za k];exact j _ _ ⟨by unfold Mem.younger;rw[za (λf=>k f.2.2)],a⟩
def Mem.store(m:Mem)(a w:Int):Mem×Int:=
 if m.used a then(m.set a w).mark (a / 64) (a % 64 / 16) ((m.set a w).younger ((m.set a w).seg (a / 64).toNat) w (((m.set a w).seg (a / 64).toNat).cards (a % 64 / 16).toNat))
 else(m,18)
theorem Mem.set_has:(j.set d i).has v ↔ j.has v:=by
 unfold Mem.has Mem.set
 rw[Mem.upd_limit,Do]
 by_cases h:v.toNat=(d / 64).toNat
 ·rw[qB h];simp only[Seg.set,h]
 ·rw[za h]
theorem D6:type_of% @Mem.set_has:=@Mem.set_has
theorem nS(h:CdAt H z u)(U:SpOK u)(N:Ah d)(T:aD i):
  dM.C (some ⟨z.c,0,none⟩) d i H (λv B=>v=vi (u.mem.store d i).2/\CdAt B z {u with mem:=(u.mem.store d i).1}/\Fr [z.m,z.s] H B):=by
 refine HC.via λR o=>dM.link ?_
 unfold dM.pt zY
 refine HC.mono (lU h) ?_
 rintro _ H1 ⟨rfl,rfl⟩
 refine⟨_,rfl,?_⟩
 rw[za (by decide)]
 refine⟨_,rfl,_,h.cPtr,_,rfl,_,h.sp.memPtr,?_⟩
 refine HC.mono (iQ h.sp.mem U.mem N.2) ?_
 rintro _ t ⟨rfl,b,L⟩
 refine⟨_,rfl,?_⟩
 have a:Fr [z.m,z.s] H1 t:=L.mono (λa1 f _=>by simp at f;simp[f])
 by_cases j:u.mem.used d
 case neg=>
  rw[za j]at b
  have e:u.mem.store d i=(u.mem,18):=by unfold Mem.store;rw[za j]
  rw[e]at o
  rw[za j,za (by decide)]
  exact o _ _ ⟨rfl,h.withMem a (by simp) b,a⟩
 rw[qB j]at b
 rw[qB j,qB rfl]
 have q:=h.withMem a (by simp) b
 have E:=j.1
 have p:(u.mem.set d i).has (d / 64):=D6.2 j.2.1
 have V:IntKind.wrap .i64 (Int.tdiv d 64)=d / 64:=by rw[jw E,xT (by omega)]
 have W:IntKind.wrap .i64 (Int.tdiv (Int.tmod d 64) 16)=d % 64 / 16:=by rw[jx E,jw (by omega),xT (by omega)]
 refine⟨_,q.cPtr,_,rfl,_,q.sp.memPtr,?_⟩
 rw[V,W]
 refine HC.mono (kY q.sp.mem) ?_
 rintro _ X ⟨rfl,F⟩
 rw[qB p]
 have w:u.mem.store d i=(u.mem.set d i).mark (d / 64) (d % 64 / 16) ((u.mem.set d i).younger ((u.mem.set d i).seg (d / 64).toNat) i (((u.mem.set d i).seg (d / 64).toNat).cards (d % 64 / 16).toNat)):=by unfold Mem.store;rw[qB j]
 rw[w]at o
 generalize S:(u.mem.set d i).seg (d / 64).toNat=sg at o
 refine⟨_,_,_,_,_,_,_,_,rfl,λb1 K O l=>?_⟩
 obtain⟨P,Q⟩:=boxed (vs:=[vi sg.gen,vi sg.kind,vi sg.n,vi (sg.cards 0),vi (sg.cards 1),vi (sg.cards 2),vi (sg.cards 3)]) (H1:=K) (aF O l) rfl rfl
 refine⟨P,λD x=>?_⟩
 obtain⟨g,M⟩:=Q D x
 have k:Ext t D:=M t (F.trans (CI l)) (by have:=F.size;omega)
 have r:=q.ext k
 refine⟨_,r.cPtr,_,rfl,_,r.sp.memPtr,_,_,_,_,_,_,_,g,⟨by omega,by omega⟩,sg.cards (d % 64 / 16).toNat,?_,?_⟩
 ·have y:(d % 64 / 16).toNat=0\/(d % 64 / 16).toNat=1\/(d % 64 / 16).toNat=2\/(d % 64 / 16).toNat=3:=by omega
  simp only[CH,Dd,CQ]
  have J:=gE g (3+(d % 64 / 16).toNat)
  simp only[CH,CQ]at J
  refine J _ ?_
  rcases y with e | e | e | e<;>rw[e]<;>rfl
 refine HC.mono (mR (sg:=sg) r T) ?_
 rintro _ Y ⟨rfl,G⟩
 have s:=r.ext G
 refine⟨_,rfl,⟨by rw[CH];exact s.cPtr,EO⟩,⟨by rw[CH];exact s.sp.memPtr,EO⟩,?_⟩
 refine HC.mono (pQ s.sp.mem) ?_
 rintro _ Z ⟨rfl,A,I⟩
 refine⟨_,rfl,o _ _ ⟨rfl,?_,?_⟩⟩
 ·exact s.withMem (I.mono (S':=[z.m,z.s]) (λa1 f _=>by simp at f;simp[f])) (by simp) A
 ·exact(a.trans (k.trans G).fr).trans (I.mono (λa1 f _=>by simp at f;simp[f]))
theorem tX(r:Ah d):
  kN.C d H (λv g=>(¬(8<=d/\d<=1024)/\v=.tuple #[vp none,vi 1]/\Ext H g)\/
   ((8<=d/\d<=1024)/\ ∃b:Blk,v=.tuple #[vp (some ⟨b.c,0,none⟩),vi 0]/\CdAt g b ⟨Mem.fresh d.toNat,λ_ _=>0⟩/\Ext H g/\H.size<=b.s/\b.s<b.m/\b.m<b.sp/\b.sp<b.c)):=by
 refine HC.via λR l=>kN.link ?_
 unfold kN.pt
 refine HC.mono (sO r) ?_
 rintro _ o (⟨hn,rfl,h⟩ | ⟨u,b,rfl,n,h,j,i,k⟩)
 ·refine⟨_,_,rfl,?_⟩
  rw[za (by decide)]
  exact l _ _ (.inl ⟨hn,rfl,h⟩)
 ·refine⟨_,_,rfl,?_⟩
  rw[qB rfl]
  intro f w p a
  have t:b.sp<o.size:=by obtain⟨x,q,_⟩:=n.sp;exact aS q
  have e:=n.ext (CI a)
  refine l _ _ (.inr ⟨u,{b with c:=f},rfl,⟨⟨e.mem,e.ne,e.sp⟩,⟨by show f≠b.sp;omega,by show f≠b.m;omega,by show f≠b.s;omega⟩,aF p a⟩,h.trans (CI a),j,i,k,by show b.sp<f;omega⟩)
structure Hp where
 sp:Sp
 sy:Value
 en:Value
 ep:Int
variable{r:Option (Blk×Hp)}{D:Hp}
structure HpAt (H:zV) (b:Blk) (x:Hp):Prop where
 cd:CdAt H b x.sp
 ne:b.h≠b.c/\b.h≠b.sp/\b.h≠b.m/\b.h≠b.s
 h:H[b.h]?=some (.cells #[vp (some ⟨b.c,0,none⟩),x.sy,x.en,vu x.ep] 51 (0,0))
theorem HpAt.keep{S:List Nat}{x:Hp}(h:HpAt H z x)(f:Fr S H B)(b: ∀i,i∈S->i ∉ z.all):HpAt B z x:=
 ⟨h.cd.keep f (λa=>b _ a (by simp[Blk.all])) (λa=>b _ a (by simp[Blk.all])) (λa=>b _ a (by simp[Blk.all])) (λa=>b _ a (by simp[Blk.all])),h.ne,f.get (λa=>b _ a (by simp[Blk.all])) h.h⟩
theorem HpAt.ext{b:Blk}(h:HpAt H b D)(f:Ext H B):HpAt B b D:=h.keep (S:=[]) f.fr (by simp)
theorem HpAt.withCd{S:List Nat}(h:HpAt H z D)(f:Fr S H B)(a: ∀i,i∈S->i=z.sp\/i=z.m\/i=z.s)(b:CdAt B z u):HpAt B z {D with sp:=u}:=
 ⟨b,h.ne,f.get (λc=>by have:=a _ c;have:=h.ne;omega) h.h⟩
theorem HpAt.withSp{S:List Nat}(h:HpAt H z D)(f:Fr S H B)(a: ∀i,i∈S->i=z.sp\/i=z.m\/i=z.s)(b:SpAt B z u):HpAt B z {D with sp:=u}:=
 h.withCd f a (h.cd.withSp f (λc=>by have:=a _ c;have:=h.cd.ne;omega) b)
theorem HpAt.withMem{S:List Nat}{m:Mem}(h:HpAt H z D)(f:Fr S H B)(a: ∀i,i∈S->i=z.m\/i=z.s)(b:cS B z.m z.s m):HpAt B z {D with sp:={D.sp with mem:=m}}:=
 h.withCd f (λi c=> .inr (a i c)) (h.cd.withMem f a b)
theorem HpAt.hPtr(h:HpAt H z D):hat H ⟨z.h,0,none⟩=some (vp (some ⟨z.c,0,none⟩)):=by rw[aI h.h];rfl
theorem HpAt.lt{b:Blk}(h:HpAt H b D): ∀i,i∈b.all->i<H.size:=by
 intro i d
 have f:=aS h.h
 have g:=aS h.cd.c
 obtain⟨e,a,_⟩:=h.cd.sp.sp
 have j:=aS a
 have k:=h.cd.sp.mem.lt
 simp[Blk.all]at d
 omega
theorem BN{p q:Bool}(h:p=q):Value.tuple #[vi d,.bool p]=.tuple #[vi d,.bool q]:=by rw[h]
inductive View (H:zV):zW->Option (Blk×Hp)->Prop
 | nobody:View H none none
 | empty {a:Addr} (h:hat H a=some (vp none)):View H (some a) none
 | real {b:Blk} {x:Hp} (h:HpAt H b x) (ok:SpOK x.sp):View H (some ⟨b.h,0,none⟩) (some (b,x))
def yP:Option (Blk×Hp)->Mem
 | none=>Mem.fresh 0
 | some (_,x)=>x.sp.mem
theorem View.ext(V:View H o r)(e:Ext H B):View B o r:=by
 cases V with
 | nobody=>exact .nobody
 | empty h=>exact .empty (e.hat h)
 | real h a=>exact .real (h.ext e) a
theorem nr: ¬(yP none).has d:=λh=>by have:=h.1;have:d< ((0:Nat):Int):=h.2.1;omega
theorem View.word(V:View H o r)(a:Int):aD ((yP r).get a):=by
 cases V with
 | nobody=>exact(by decide:aD 0)
 | empty h=>exact(by decide:aD 0)
 | real h b=>exact(b.mem.seg _).words _
theorem nC(V:View H o r):eW.C o H (λv b=>v=.bool r.isNone/\b=H):=by
 refine HC.via λR a=>eW.link ?_
 unfold eW.pt
 cases V with
 | nobody=>rw[CP];exact a _ _ ⟨rfl,rfl⟩
 | empty h=>rw[CK];refine⟨_,h,?_⟩;rw[CP];exact a _ _ ⟨rfl,rfl⟩
 | real h c=>rw[CK];refine⟨_,h.hPtr,?_⟩;rw[CK];exact a _ _ ⟨rfl,rfl⟩
def Mem.atW(m:Mem)(w tag kind:Int):Prop:=gM w/\w % 8=tag/\m.has (w / 8 / 64)/\(m.seg (w / 8 / 64).toNat).kind=kind/\w / 8 % 64< (m.seg (w / 8 / 64).toNat).n
instance (m:Mem) (w tag kind:Int):Decidable (m.atW w tag kind):=by unfold Mem.atW;infer_instance
theorem Mem.atW.used{m:Mem}{w b a:Int}(h:m.atW w b a)(c:aD w):m.used (w / 8):=⟨by have:=c.1;omega,h.2.2.1,h.2.2.2.2⟩
theorem pS(V:View H o r)(Q:aD d):
  gX.C o d i v H (λa3 y=> ∃a:Int,a3=.tuple #[vi a,.bool (decide ((yP r).atW d i v))]/\((yP r).atW d i v->a=d / 8)/\Ext H y):=by
 refine HC.via λR M=>gX.link ?_
 unfold gX.pt zY
 refine HC.mono (jW Q) ?_
 rintro _ H1 ⟨rfl,A⟩
 have w: ∃(a:Int) (p:Bool),(if(d % 8=1\/d % 8=2\/d % 8=3\/d % 8=6)/\d / 8<65536 then Value.tuple #[vi (d / 8),VT]else .tuple #[vi 0,VF])=.tuple #[vi a,.bool p]/\((gM d/\p=true/\a=d / 8)\/(¬gM d/\p=false)):=by
  by_cases I:(d % 8=1\/d % 8=2\/d % 8=3\/d % 8=6)/\d / 8<65536
  ·rw[qB I];exact⟨_,_,rfl,.inl ⟨I,rfl,rfl⟩⟩
  ·rw[za I];exact⟨_,_,rfl,.inr ⟨I,rfl⟩⟩
 obtain⟨a,p,w,W⟩:=w
 refine⟨a,p,w,?_⟩
 refine HC.mono (nC (V.ext A)) ?_
 rintro _ Y ⟨rfl,rfl⟩
 refine⟨_,rfl,?_⟩
 have no: ∀(a:Int) y,¬(yP r).atW d i v->Ext H y->R (.tuple #[vi a,VF]) y:=λa y hn e=>M _ _ ⟨a,by rw[zQ hn],λh=>absurd h hn,e⟩
 cases V with
 | nobody=>rw[qB (show(none:Option (Blk×Hp)).isNone=true from rfl)];exact no _ _ (λh=>nr h.2.2.1) A
 | empty h=>rw[qB (show(none:Option (Blk×Hp)).isNone=true from rfl)];exact no _ _ (λh=>nr h.2.2.1) A
 | @real b x h ok=>
  rw[za (show ¬(some (b,x)).isNone=true from Bool.false_ne_true)]
  rcases W with⟨G,rfl,rfl⟩ | ⟨G,rfl⟩
  case inr=>rw[za (by decide)];exact no _ _ (λh=>G h.1) A
  rw[qB rfl]
  refine HC.mono (fZ Q) ?_
  rintro _ Z ⟨rfl,U⟩
  refine⟨_,rfl,?_⟩
  have t:=A.trans U
  by_cases J:d % 8=i
  case neg=>rw[za J];exact no _ _ (λh=>J h.2.1) t
  rw[qB J]
  have F:=h.ext t
  have X:d / 8<65536:=G.2
  have D:0<=d / 8:=by have:=Q.1;omega
  refine⟨_,rfl,_,F.hPtr,_,rfl,_,F.cd.cPtr,_,rfl,_,F.cd.sp.memPtr,?_⟩
  rw[jw D,xT (n:=d / 8 / 64) (by omega),jx D]
  refine HC.mono (kY F.cd.sp.mem) ?_
  rintro _ H4 ⟨rfl,S⟩
  show∃a b c a2 e f g q,_/\_
  have hm:yP (some (b,x))=x.sp.mem:=rfl
  rw[hm]at no M
  by_cases j:x.sp.mem.has (d / 8 / 64)
  ·rw[qB j,zX j]
   generalize B:x.sp.mem.seg (d / 8 / 64).toNat=k at*
   refine⟨_,_,_,_,_,_,_,_,rfl,λT K N m=>?_⟩
   obtain⟨O,P⟩:=boxed (vs:=[vi k.gen,vi k.kind,vi k.n,vi (k.cards 0),vi (k.cards 1),vi (k.cards 2),vi (k.cards 3)]) (H1:=K) (aF N m) rfl rfl
   refine⟨O,λz u=>?_⟩
   obtain⟨s,L⟩:=P z u
   have l:=t.trans S
   have E:Ext H z:=L H (l.trans (CI m)) (by have:=l.size;omega)
   rw[qB rfl]
   refine⟨k.kind,s.2.1,?_⟩
   by_cases hk:k.kind=v
   ·rw[qB hk]
    refine⟨k.n,s.2.2.1,M _ _ ⟨_,?_,λ_=>rfl,E⟩⟩
    refine BN ?_
    rw[decide_eq_decide]
    unfold Mem.atW
    rw[B]
    exact⟨λh=>⟨G,J,j,hk,h⟩,λh=>h.2.2.2.2⟩
   ·rw[za hk]
    exact no _ _ (λh=>hk (by have:=h.2.2.2.1;rw[B]at this;exact this)) E
  ·rw[za j,zQ j]
   generalize Seg.none=k
   refine⟨_,_,_,_,_,_,_,_,rfl,λT K N m=>?_⟩
   obtain⟨O,P⟩:=boxed (vs:=[vi k.gen,vi k.kind,vi k.n,vi (k.cards 0),vi (k.cards 1),vi (k.cards 2),vi (k.cards 3)]) (H1:=K) (aF N m) rfl rfl
   refine⟨O,λz u=>?_⟩
   obtain⟨s,L⟩:=P z u
   have l:=t.trans S
   have E:Ext H z:=L H (l.trans (CI m)) (by have:=l.size;omega)
   rw[za (by decide)]
   exact no _ _ (λh=>j h.2.2.1) E
def jQ(x:Int):Prop:=x % 8=5/\(1<=x / 8 % 32/\x / 8 % 32<=13/\x / 256 % 256<=62)
instance (x:Int):Decidable (jQ x):=by unfold jQ;infer_instance
def hk(x:Int):Int:=x / 8 % 32
def hn(x:Int):Int:=x / 256 % 256
def hm(x:Int):Int:=x / 65536
def zh(k:Int):Int:=if k=2\/k=3 then 3 else 2
theorem qX:lh.C d H (λv b=>v=vi (zh d)/\b=H):=by
 refine HC.via λR a=>lh.link ?_
 unfold lh.pt
 by_cases h:d=2\/d=3
 ·rw[qB (by simpa using h)];exact a _ _ ⟨by unfold zh;rw[qB h],rfl⟩
 ·rw[za (by simpa using h)];exact a _ _ ⟨by unfold zh;rw[za h],rfl⟩
def Mem.isObj(m:Mem)(w:Int):Prop:=m.atW w 3 (zh (hk (m.get (w / 8))))/\jQ (m.get (w / 8))/\w / 8 % 64+hn (m.get (w / 8))< (m.seg (w / 8 / 64).toNat).n
instance (m:Mem) (w:Int):Decidable (m.isObj w):=by unfold Mem.isObj;infer_instance
theorem rM(V:View H o r)(W:aD d):
  cE.C o d H (λv g=>v=(if(yP r).isObj d then .tuple #[vi (d / 8),vi (hk ((yP r).get (d / 8))),vi (hn ((yP r).get (d / 8))),vu (hm ((yP r).get (d / 8))),VT]
   else .tuple #[vi 0,vi 0,vi 0,vu 0,VF])/\Ext H g):=by
 refine HC.via λR hR=>cE.link ?_
 unfold cE.pt zY
 refine⟨λi g=>(0<=i/\i<=2)/\Ext H g/\(1<=i-> ¬((yP r).isObj d/\zh (hk ((yP r).get (d / 8)))=2))/\(2<=i-> ¬((yP r).isObj d/\zh (hk ((yP r).get (d / 8)))=3)),λi _=>(2-i).toNat,⟨by omega,CW _,λh=>by omega,λh=>by omega⟩,?_⟩
 rintro i H1 ⟨hi,N,n2,n3⟩
 by_cases m:i<2
 case neg=>
  rw[za m]
  refine hR _ _ ⟨?_,N⟩
  rw[za]
  intro hO
  by_cases e:zh (hk ((yP r).get (d / 8)))=2
  ·exact n2 (by omega) ⟨hO,e⟩
  ·refine n3 (by omega) ⟨hO,?_⟩
   unfold zh at e⊢
   by_cases h:hk ((yP r).get (d / 8))=2\/hk ((yP r).get (d / 8))=3
   ·rw[qB h]
   ·rw[za h]at e;exact absurd rfl e
 rw[qB m]
 have X: ∃x:Int,(#[vi 2,vi 3]:Array Value)[i.toNat]?=some (vi x)/\((i=0/\x=2)\/(i=1/\x=3)):=by
  have:i=0\/i=1:=by omega
  rcases this with rfl | rfl
  ·exact⟨2,rfl,.inl ⟨rfl,rfl⟩⟩
  ·exact⟨3,rfl,.inr ⟨rfl,rfl⟩⟩
 obtain⟨x,X,D⟩:=X
 refine⟨x,⟨⟨hi.1,m⟩,X⟩,?_⟩
 have V1:=V.ext N
 rw[xT (n:=i+1) (by omega)]
 have next: ∀g,Ext H g-> ¬((yP r).isObj d/\zh (hk ((yP r).get (d / 8)))=x)->((0<=i+1/\i+1<=2)/\Ext H g/\(1<=i+1-> ¬((yP r).isObj d/\zh (hk ((yP r).get (d / 8)))=2))/\(2<=i+1-> ¬((yP r).isObj d/\zh (hk ((yP r).get (d / 8)))=3)))/\(2-(i+1)).toNat< (2-i).toNat:=by
  intro g e' E
  refine⟨⟨by omega,e',λ_=>?_,λu=>?_⟩,by omega⟩
  ·rcases D with⟨rfl,rfl⟩ | ⟨rfl,rfl⟩
   ·exact E
   ·exact n2 (by omega)
  ·rcases D with⟨rfl,rfl⟩ | ⟨rfl,rfl⟩
   ·omega
   ·exact E
 refine HC.mono (pS V1 W) ?_
 rintro _ H2 ⟨a,rfl,ha,e2⟩
 refine⟨_,_,rfl,?_⟩
 have j:=N.trans e2
 by_cases c:(yP r).atW d 3 x
 case neg=>
  rw[za (by simpa using c)]
  exact next _ j (λh=>c (by rw[<-h.2];exact h.1.1))
 rw[qB (zX c),ha c]
 have I:0<=d / 8:=by have:=W.1;omega
 have ak:d / 8<65536:=c.1.2
 cases V with
 | nobody=>exact absurd c.2.2.1 nr
 | empty h=>exact absurd c.2.2.1 nr
 | @real b y h Z=>
  have T:yP (some (b,y))=y.sp.mem:=rfl
  rw[T]at*
  have u:=h.ext j
  have hu:y.sp.mem.used (d / 8):=c.used W
  refine⟨_,rfl,_,u.hPtr,_,rfl,_,u.cd.cPtr,_,rfl,_,u.cd.sp.memPtr,?_⟩
  refine HC.mono (jX u.cd.sp.mem Z.mem (by omega)) ?_
  rintro _ H3 ⟨rfl,rfl⟩
  rw[qB hu]
  refine⟨_,_,rfl,?_⟩
  have Y:aD (y.sp.mem.get (d / 8)):=(Z.mem.seg _).words _
  refine HC.mono (sK Y) ?_
  rintro _ H4 ⟨rfl,e4⟩
  have t: ∃(p q ax:Int) (aw:Bool),(if y.sp.mem.get (d / 8) % 8=5/\(1<=y.sp.mem.get (d / 8) / 8 % 32/\y.sp.mem.get (d / 8) / 8 % 32<=13/\y.sp.mem.get (d / 8) / 256 % 256<=62)then Value.tuple #[vi (y.sp.mem.get (d / 8) / 8 % 32),vi (y.sp.mem.get (d / 8) / 256 % 256),vu (y.sp.mem.get (d / 8) / 65536),VT]else .tuple #[vi 0,vi 0,vu 0,VF])=.tuple #[vi p,vi q,vu ax,.bool aw]/\
    ((jQ (y.sp.mem.get (d / 8))/\aw=true/\p=hk (y.sp.mem.get (d / 8))/\q=hn (y.sp.mem.get (d / 8))/\ax=hm (y.sp.mem.get (d / 8)))\/(¬jQ (y.sp.mem.get (d / 8))/\aw=false)):=by
   by_cases M:jQ (y.sp.mem.get (d / 8))
   ·have l:y.sp.mem.get (d / 8) % 8=5/\(1<=y.sp.mem.get (d / 8) / 8 % 32/\y.sp.mem.get (d / 8) / 8 % 32<=13/\y.sp.mem.get (d / 8) / 256 % 256<=62):=M
    rw[qB l];exact⟨_,_,_,_,rfl,.inl ⟨M,rfl,rfl,rfl,rfl⟩⟩
   ·have l: ¬(y.sp.mem.get (d / 8) % 8=5/\(1<=y.sp.mem.get (d / 8) / 8 % 32/\y.sp.mem.get (d / 8) / 8 % 32<=13/\y.sp.mem.get (d / 8) / 256 % 256<=62)):=M
    rw[za l];exact⟨_,_,_,_,rfl,.inr ⟨M,rfl⟩⟩
  obtain⟨p,q,ax,aw,t,P⟩:=t
  refine⟨p,q,ax,aw,t,?_⟩
  have K:=u.ext e4
  refine⟨_,K.hPtr,_,rfl,_,K.cd.cPtr,_,rfl,_,K.cd.sp.memPtr,?_⟩
  rw[jw I,xT (n:=d / 8 / 64) (by omega),jx I]
  refine HC.mono (kY K.cd.sp.mem) ?_
  rintro _ H5 ⟨rfl,e5⟩
  have B:y.sp.mem.has (d / 8 / 64):=c.2.2.1
  rw[qB B]
  have U:=(Z.mem.seg (d / 8 / 64).toNat).n
  have Q:=c.2.2.2.1
  have S:=c.2.2.2.2
  generalize G:y.sp.mem.seg (d / 8 / 64).toNat=f at U Q S⊢
  refine⟨_,_,_,_,_,_,_,_,rfl,λb1 H6 hb z=>?_⟩
  obtain⟨hc,hs⟩:=boxed (vs:=[vi f.gen,vi f.kind,vi f.n,vi (f.cards 0),vi (f.cards 1),vi (f.cards 2),vi (f.cards 3)]) (H1:=H6) (aF hb z) rfl rfl
  refine⟨hc,λH7 O=>?_⟩
  obtain⟨F,hE⟩:=hs H7 O
  have w:=(j.trans e4).trans e5
  have J:Ext H H7:=hE H (w.trans (CI z)) (by have:=w.size;omega)
  rcases P with⟨s,rfl,rfl,rfl,rfl⟩ | ⟨s,rfl⟩
  case inr=>
   rw[za (by decide)]
   exact next _ J (λh=>s h.1.2.1)
  rw[qB rfl]
  refine HC.mono qX ?_
  rintro _ H8 ⟨rfl,rfl⟩
  refine⟨_,rfl,?_⟩
  by_cases e:zh (hk (y.sp.mem.get (d / 8)))=x
  case neg=>rw[za e];exact next _ J (λh=>e h.2)
  rw[qB e]
  refine⟨f.n,F.2.2.1,?_⟩
  have ah:0<=hn (y.sp.mem.get (d / 8))/\hn (y.sp.mem.get (d / 8))<=255:=by unfold hn;omega
  rw[xT (n:=d / 8 % 64+hn (y.sp.mem.get (d / 8))) (by omega)]
  by_cases L:d / 8 % 64+hn (y.sp.mem.get (d / 8))<f.n
  ·rw[qB L]
   refine hR _ _ ⟨?_,J⟩
   have A:y.sp.mem.isObj d:=⟨by rw[e];exact c,s,by rw[G];exact L⟩
   have k:(yP (some (b,y))).isObj d:=A
   rw[qB k];rfl
  ·rw[za L]
   exact next _ J (λh=>L (by have h3:d / 8 % 64+hn (y.sp.mem.get (d / 8))< (y.sp.mem.seg (d / 8 / 64).toNat).n:=h.1.2.2;rw[G]at h3;exact h3))
def Mem.typ(m:Mem)(w:Int):Int:=if m.isObj w then hk (m.get (w / 8))else 0
def Mem.len(m:Mem)(w:Int):Int:=if m.isObj w then hn (m.get (w / 8))else 0
def Mem.more(m:Mem)(w:Int):Int:=if m.isObj w then hm (m.get (w / 8))else 0
theorem kv(V:View H o r)(b:aD d):
  cE.C o d H (λv a=>v=.tuple #[vi (if(yP r).isObj d then d / 8 else 0),vi ((yP r).typ d),vi ((yP r).len d),vu ((yP r).more d),.bool (decide ((yP r).isObj d))]/\Ext H a):=by
 refine HC.mono (rM V b) ?_
 rintro _ c ⟨rfl,e⟩
 refine⟨?_,e⟩
 unfold Mem.typ Mem.len Mem.more
 by_cases h:(yP r).isObj d
 ·simp only[qB h,zX h]
 ·simp only[za h,zQ h]
theorem jN(V:View H o r)(e:aD d):
  bX.C o d H (λv a=>v=vi ((yP r).typ d)/\Ext H a):=by
 refine HC.via λR c=>bX.link ?_
 unfold bX.pt
 refine HC.mono (kv V e) ?_
 rintro _ f ⟨rfl,b⟩
 exact⟨_,_,_,_,_,rfl,c _ _ ⟨rfl,b⟩⟩
theorem nf(V:View H o r)(e:aD d):
  cO.C o d H (λv a=>v=vi ((yP r).len d)/\Ext H a):=by
 refine HC.via λR c=>cO.link ?_
 unfold cO.pt
 refine HC.mono (kv V e) ?_
 rintro _ f ⟨rfl,b⟩
 exact⟨_,_,_,_,_,rfl,c _ _ ⟨rfl,b⟩⟩
theorem mv(V:View H o r)(e:aD d):
  eI.C o d H (λv a=>v=vu ((yP r).more d)/\Ext H a):=by
 refine HC.via λR c=>eI.link ?_
 unfold eI.pt
 refine HC.mono (kv V e) ?_
 rintro _ f ⟨rfl,b⟩
 exact⟨_,_,_,_,_,rfl,c _ _ ⟨rfl,b⟩⟩
def Mem.fieldE(m:Mem)(w kind i:Int):Int:=if ¬m.isObj w\/m.typ w≠kind then 3 else if i<0\/m.len w<=i then 4 else 0
theorem Mem.isObj.len_lt(h:j.isObj d):0<=hn (j.get (d / 8))/\hn (j.get (d / 8))<=62:=by
 have:=h.2.1;unfold jQ at this;unfold hn;omega
theorem oV(V:View H o r)(j:aD d)(s:Ah v):
  eV.C o d i v H (λu k=>u=.tuple #[vi (if(yP r).fieldE d i v=0 then d / 8+1+v else 0),vi ((yP r).fieldE d i v)]/\Ext H k):=by
 refine HC.via λR b=>eV.link ?_
 unfold eV.pt zY
 refine HC.mono (kv V j) ?_
 rintro _ q ⟨rfl,g⟩
 refine⟨_,_,_,_,_,rfl,?_⟩
 by_cases a: ¬(yP r).isObj d\/(yP r).typ d≠i
 ·rw[qB (by simpa using a)]
  have e:(yP r).fieldE d i v=3:=by unfold Mem.fieldE;rw[qB a]
  rw[e]at b
  exact b _ _ ⟨rfl,g⟩
 rw[za (by simpa using a)]
 by_cases c:v<0\/(yP r).len d<=v
 ·rw[qB (by simpa using c)]
  have e:(yP r).fieldE d i v=4:=by unfold Mem.fieldE;rw[za a,qB c]
  rw[e]at b
  exact b _ _ ⟨rfl,g⟩
 rw[za (by simpa using c)]
 have e:(yP r).fieldE d i v=0:=by unfold Mem.fieldE;rw[za a,za c]
 rw[e]at b
 have f:(yP r).isObj d:=Classical.byContradiction λh=>a (.inl h)
 have p:d / 8<65536:=f.1.1.2
 have m:0<=d / 8:=by have:=j.1;omega
 have t:=f.len_lt
 have l:(yP r).len d=hn ((yP r).get (d / 8)):=by unfold Mem.len;rw[qB f]
 rw[qB f,xT (n:=d / 8+1) (by omega),xT (n:=d / 8+1+v) (by omega)]
 exact b _ _ ⟨rfl,g⟩
theorem Mem.isObj.used{m:Mem}{w i:Int}(h:m.isObj w)(e:aD w)(b:(m.seg (w / 8 / 64).toNat).n<=64)(j:0<=i/\i<m.len w):m.used (w / 8+1+i):=by
 have f:0<=w / 8:=by have:=e.1;omega
 have d:m.len w=hn (m.get (w / 8)):=by unfold Mem.len;rw[qB h]
 have g:=h.2.2
 have a:(w / 8+1+i) / 64=w / 8 / 64:=by omega
 have c:(w / 8+1+i) % 64=w / 8 % 64+1+i:=by omega
 exact⟨by omega,by rw[a];exact h.1.2.2.1,by rw[a,c];omega⟩
theorem View.n64(V:View H o r)(k:Nat):((yP r).seg k).n<=64:=by
 cases V with
 | nobody=>exact(by decide:(0:Int)<=64)
 | empty h=>exact(by decide:(0:Int)<=64)
 | real h a=>exact(a.mem.seg k).n.2
theorem Mem.fieldE_0(h:j.fieldE d i v=0):j.isObj d/\j.typ d=i/\0<=v/\v<j.len d:=by
 unfold Mem.fieldE at h
 by_cases a: ¬j.isObj d\/j.typ d≠i
 ·rw[qB a]at h;cases h
 rw[za a]at h
 by_cases b:v<0\/j.len d<=v
 ·rw[qB b]at h;cases h
 ·exact⟨Classical.byContradiction λh=>a (.inl h),Classical.byContradiction λh=>a (.inr h),by omega,by omega⟩
theorem qY(V:View H o r)(n:aD d)(q:Ah v):
  dF.C o d i v H (λA p=>A=.tuple #[vu (if(yP r).fieldE d i v=0 then(yP r).get (d / 8+1+v)else 0),vi ((yP r).fieldE d i v)]/\Ext H p):=by
 refine HC.via λR m=>dF.link ?_
 unfold dF.pt
 refine HC.mono (oV V n q) ?_
 rintro _ w ⟨rfl,g⟩
 refine⟨_,_,rfl,?_⟩
 by_cases a:(yP r).fieldE d i v=0
 case neg=>rw[za a];exact m _ _ ⟨by rw[za a],g⟩
 rw[qB a,qB a]
 obtain⟨c,_,j,e⟩:=Mem.fieldE_0 a
 have s:=c.used n (V.n64 _) ⟨j,e⟩
 cases V with
 | nobody=>exact absurd c.1.2.2.1 nr
 | empty h=>exact absurd c.1.2.2.1 nr
 | @real b x h u=>
  have f:=h.ext g
  refine⟨_,rfl,_,f.hPtr,_,rfl,_,f.cd.cPtr,_,rfl,_,f.cd.sp.memPtr,?_⟩
  have z:=c.len_lt
  have t:d / 8<65536:=c.1.1.2
  have k:(yP (some _)).len d=_:=qB c
  refine HC.mono (jX f.cd.sp.mem u.mem (by rw[k]at e;omega)) ?_
  rintro _ y ⟨rfl,rfl⟩
  have l:x.sp.mem.used (d / 8+1+v):=s
  rw[qB l]
  refine⟨_,_,rfl,m _ _ ⟨?_,g⟩⟩
  rw[qB a,a];rfl
def Hp.setMem(x:Hp)(m:Mem):Hp:={x with sp:={x.sp with mem:=m}}
theorem SpOK.withMem(i:SpOK u){m:Mem}(hm:bD m)(f: ∀k,u.mem.has k->m.has k)(a: ∀k,(m.seg k).gen=(u.mem.seg k).gen/\(m.seg k).kind=(u.mem.seg k).kind):SpOK {u with mem:=m}:=
 ⟨hm,λg k=>by
  rcases i.cur g k with h | ⟨b,c,d,e⟩
  ·exact .inl h
  ·exact .inr ⟨b,f _ c,by rw[<-d];exact(a _).1,by rw[<-e];exact(a _).2⟩⟩
theorem Mem.mark_has{a:Int}:(j.mark d i v).1.has a ↔ j.has a:=by
 unfold Mem.mark
 split
 ·exact Iff.rfl
 split
 ·exact Iff.rfl
 ·unfold Mem.has
  show(0<=a/\a< (j.limit:Int)/\((j.upd d.toNat ((j.seg d.toNat).mark i.toNat v)).seg a.toNat).taken≠0) ↔ _
  rw[Do]
  by_cases h:a.toNat=d.toNat
  ·rw[qB h,h];rfl
  ·rw[za h]
theorem Mem.mark_seg{m:Mem}{k c v:Int}(j:Nat):((m.mark k c v).1.seg j).gen=(m.seg j).gen/\((m.mark k c v).1.seg j).kind=(m.seg j).kind/\((m.mark k c v).1.seg j).n=(m.seg j).n/\((m.mark k c v).1.seg j).words=(m.seg j).words:=by
 unfold Mem.mark
 split
 ·exact⟨rfl,rfl,rfl,rfl⟩
 split
 ·exact⟨rfl,rfl,rfl,rfl⟩
 ·show((m.upd k.toNat ((m.seg k.toNat).mark c.toNat v)).seg j).gen=_/\((m.upd k.toNat ((m.seg k.toNat).mark c.toNat v)).seg j).kind=_/\((m.upd k.toNat ((m.seg k.toNat).mark c.toNat v)).seg j).n=_/\((m.upd k.toNat ((m.seg k.toNat).mark c.toNat v)).seg j).words=_
  rw[Do]
  by_cases h:j=k.toNat
  ·rw[qB h,h];exact⟨rfl,rfl,rfl,rfl⟩
  ·rw[za h];exact⟨rfl,rfl,rfl,rfl⟩
theorem Mem.set_seg{m:Mem}{a w:Int}(j:Nat):((m.set a w).seg j).gen=(m.seg j).gen/\((m.set a w).seg j).kind=(m.seg j).kind/\((m.set a w).seg j).n=(m.seg j).n:=by
 unfold Mem.set
 rw[Do]
 by_cases h:j=(a / 64).toNat
 ·rw[qB h,h];exact⟨rfl,rfl,rfl⟩
 ·rw[za h];exact⟨rfl,rfl,rfl⟩
theorem bD.store{m:Mem}(b:bD m)(a:Int){w:Int}(c:aD w):bD (m.store a w).1:=by
 unfold Mem.store
 split
 ·exact(b.set a c).mark _ _ _
 ·exact b
theorem Mem.store_seg{m:Mem}{a w:Int}(j:Nat):((m.store a w).1.seg j).gen=(m.seg j).gen/\((m.store a w).1.seg j).kind=(m.seg j).kind/\((m.store a w).1.seg j).n=(m.seg j).n:=by
 unfold Mem.store
 split
 ·have b:=Mem.mark_seg (m:=m.set a w) (k:=a / 64) (c:=a % 64 / 16) (v:=(m.set a w).younger ((m.set a w).seg (a / 64).toNat) w (((m.set a w).seg (a / 64).toNat).cards (a % 64 / 16).toNat)) j
  have d:=Mem.set_seg (m:=m) (a:=a) (w:=w) j
  exact⟨b.1.trans d.1,b.2.1.trans d.2.1,b.2.2.1.trans d.2.2⟩
 ·exact⟨rfl,rfl,rfl⟩
theorem Dh:type_of% @Mem.store_seg:=@Mem.store_seg
theorem Mem.store_has:(j.store d i).1.has v ↔ j.has v:=by
 unfold Mem.store
 split
 ·exact Mem.mark_has.trans D6
 ·exact Iff.rfl
theorem SpOK.store(b:SpOK u)(a:Int){w:Int}(c:aD w):SpOK {u with mem:=(u.mem.store a w).1}:=
 b.withMem (b.mem.store a c) (λk h=>Mem.store_has.2 h) (λk=>⟨(Dh k).1,(Dh k).2.1⟩)
def AR(o:Option (Blk×Hp))(w kind i v:Int):Option (Blk×Hp):=
 match o with
 | none=>none
 | some (b,x)=>some (b,x.setMem (if x.sp.mem.fieldE w kind i=0 then(x.sp.mem.store (w / 8+1+i) v).1 else x.sp.mem))
def Bu(o:Option (Blk×Hp))(w kind i v:Int):Int:=if(yP o).fieldE w kind i=0 then((yP o).store (w / 8+1+i) v).2 else(yP o).fieldE w kind i
def own(o:Option (Blk×Hp)):List Nat:=match o with | none=> [] | some (b,_)=> [b.sp,b.m,b.s]
theorem qZ{K:Int}(V:View H o r)(z:aD d)(B:Ah v)(g:aD K):
  eN.C o d i v K H (λu w=>u=vi (Bu r d i v K)/\View w o (AR r d i v K)/\Fr (own r) H w):=by
 refine HC.via λR n=>eN.link ?_
 unfold eN.pt
 refine HC.mono (oV V z B) ?_
 rintro _ G ⟨rfl,k⟩
 refine⟨_,_,rfl,?_⟩
 by_cases a:(yP r).fieldE d i v=0
 case neg=>
  rw[za a]
  have e:Bu r d i v K=(yP r).fieldE d i v:=by unfold Bu;rw[za a]
  have l:AR r d i v K=r:=by
   unfold AR
   match r,a with
   | none,_=>rfl
   | some (b,x),a=>
    have c: ¬x.sp.mem.fieldE d i v=0:=a
    simp only;rw[za c];rfl
  rw[e,l]at n
  exact n _ _ ⟨rfl,V.ext k,k.fr⟩
 rw[qB a,qB a]
 obtain⟨f,_,D,q⟩:=Mem.fieldE_0 a
 cases V with
 | nobody=>exact absurd f.1.2.2.1 nr
 | empty h=>exact absurd f.1.2.2.1 nr
 | @real b x h A=>
  have m:=h.ext k
  have J:=f.len_lt
  have F:d / 8<65536:=f.1.1.2
  have E:0<=d / 8:=by have:=z.1;omega
  have t:(yP (some (b,x))).len d=_:=qB f
  refine⟨_,rfl,_,m.hPtr,?_⟩
  refine HC.mono (nS m.cd A ⟨by omega,by rw[t]at q;omega⟩ g) ?_
  rintro _ I ⟨rfl,p,y⟩
  refine⟨_,rfl,n _ _ ⟨?_,?_,?_⟩⟩
  ·unfold Bu;rw[qB a];rfl
  ·have c:x.sp.mem.fieldE d i v=0:=a
   have l:AR (some (b,x)) d i v K=some (b,x.setMem (x.sp.mem.store (d / 8+1+v) K).1):=by unfold AR;simp only;rw[qB c]
   rw[l]
   exact .real (m.withCd y (λj s=>by simp at s;omega) p) (A.store _ g)
  ·exact(k.fr (S:=own (some (b,x)))).trans (y.mono (λj s _=>by simp at s;simp[own];omega))
theorem dO.ext{b:List Value}(h:dO H o b)(e:Ext H B):dO B o b:=by
 cases o with
 | none=>exact h
 | some a=>exact e.rowAt h
theorem rf{limit:Int}(p:Ah limit):
  lg.C limit H (λv g=>(¬(8<=limit/\limit<=1024)/\v=.tuple #[vp none,vi 1]/\Ext H g)\/
   ((8<=limit/\limit<=1024)/\ ∃(b:Blk) (x:Hp),v=.tuple #[vp (some ⟨b.h,0,none⟩),vi 0]/\View g (some ⟨b.h,0,none⟩) (some (b,x))/\x=⟨⟨Mem.fresh limit.toNat,λ_ _=>0⟩,VN,VN,0⟩/\Ext H g/\(∀i,i∈b.all->H.size<=i))):=by
 refine HC.via λR j=>lg.link ?_
 unfold lg.pt
 refine HC.mono (tX p) ?_
 rintro _ l (⟨hn,rfl,f⟩ | ⟨r,b,rfl,k,f,u,w,y,z⟩)
 ·refine⟨_,_,rfl,?_⟩
  rw[za (by decide)]
  exact j _ _ (.inl ⟨hn,rfl,f⟩)
 ·refine⟨_,_,rfl,?_⟩
  rw[qB rfl]
  intro e t n d
  have q:b.c<l.size:=aS k.c
  have a:=k.ext (CI d)
  refine j _ _ (.inr ⟨r,{b with h:=e},_,rfl,.real ⟨⟨⟨a.sp.mem,a.sp.ne,a.sp.sp⟩,a.ne,a.c⟩,⟨by show e≠b.c;omega,by show e≠b.sp;omega,by show e≠b.m;omega,by show e≠b.s;omega⟩,aF n d⟩ (tW ⟨by omega,by omega⟩),rfl,f.trans (CI d),λi o=>?_⟩)
  simp[Blk.all]at o
  have:=f.size
  omega
abbrev yE(ws:List Int):List Value:=ws.map (Value.int .u64)
theorem gO: ∀a:List Int,kz (yE a)=true
 | []=>rfl
 | w::a=>by show(true && kz (yE a))=true;rw[gO a];rfl
structure Grown (m m':Mem) (a n g k:Int):Prop where
 limit:m'.limit=m.limit
 addr:0<=a/\a / 64<m.limit/\a % 64+n<=64
 new:(m'.seg (a / 64).toNat).taken≠0/\(m'.seg (a / 64).toNat).gen=g/\(m'.seg (a / 64).toNat).kind=k/\(m'.seg (a / 64).toNat).n=a % 64+n
 old:(m.seg (a / 64).toNat).taken≠0->(m.seg (a / 64).toNat).gen=g/\(m.seg (a / 64).toNat).kind=k/\(m.seg (a / 64).toNat).n=a % 64/\(m'.seg (a / 64).toNat).words=(m.seg (a / 64).toNat).words/\(m'.seg (a / 64).toNat).cards=(m.seg (a / 64).toNat).cards/\(m'.seg (a / 64).toNat).taken=(m.seg (a / 64).toNat).taken
 fresh:(m.seg (a / 64).toNat).taken=0->a % 64=0
 others: ∀i,i≠(a / 64).toNat->m'.seg i=m.seg i
 free:m.free-1<=m'.free
 count:m'.count<=m.count+1
theorem Mem.bump_ok(e:bD j)(h:(j.bump d i).2.2=0):j.has d/\1<=i/\(j.seg d.toNat).n+i<=64/\j.bump d i=(j.upd d.toNat ((j.seg d.toNat).bump i),d*64+(j.seg d.toNat).n,0):=by
 unfold Mem.bump at*
 by_cases hk:j.has d
 case neg=>rw[qB hk]at h;exact absurd h (by show ¬((19:Int)=0);decide)
 rw[za (λc=>c hk)]at h⊢
 by_cases a:i<1
 ·rw[qB a]at h;exact absurd h (by show ¬((1:Int)=0);decide)
 rw[za a]at h⊢
 by_cases b:64-(j.seg d.toNat).n<i
 ·rw[qB b]at h;exact absurd h (by show ¬((2:Int)=0);decide)
 rw[za b]at h⊢
 exact⟨hk,by omega,by omega,rfl⟩
theorem Mem.bump_can(hk:j.has d)(b:1<=i)(c:(j.seg d.toNat).n+i<=64):(j.bump d i).2.2=0:=by
 unfold Mem.bump
 rw[za (λa=>a hk),za (by omega),za (by omega)]
theorem Sp.alloc_ok(k:SpOK u)(h:(u.alloc d i v).2.2=0):SpOK (u.alloc d i v).1/\Grown u.mem (u.alloc d i v).1.mem (u.alloc d i v).2.1 v d i:=by
 have L:=k.mem.lim
 unfold Sp.alloc at*
 by_cases hm:AJ d i v
 case neg=>rw[qB hm]at h;exact absurd h (by show ¬((1:Int)=0);decide)
 rw[za (λO=>O hm)]at h⊢
 have Q:=hm.1
 have hk:0<=i/\i<=3:=by have:=hm.2;omega
 have hn:1<=v/\v<=63:=by have:=hm.2;omega
 by_cases E:u.cur d.toNat i.toNat≠0/\(u.mem.bump (u.cur d.toNat i.toNat-1) v).2.2=0
 ·rw[qB E]at h⊢
  obtain⟨A,M,n,y⟩:=Mem.bump_ok k.mem E.2
  rcases k.cur d.toNat i.toNat with p | ⟨H,f,C,D⟩
  ·exact absurd p E.1
  generalize R:u.cur d.toNat i.toNat-1=j at*
  have P:=(k.mem.seg j.toNat).n
  have S:=f.1
  have w:(j*64+(u.mem.seg j.toNat).n) / 64=j:=by omega
  have x:(j*64+(u.mem.seg j.toNat).n) % 64=(u.mem.seg j.toNat).n:=by omega
  have c:=k.mem.bump j v
  rw[y]at c⊢
  refine⟨?_,?_⟩
  ·refine k.withMem c (λT g=>⟨g.1,g.2.1,?_⟩) (λT=>?_)
   ·rw[Do]
    by_cases e:T.toNat=j.toNat
    ·rw[qB e];exact f.2.2
    ·rw[za e];exact g.2.2
   ·rw[Do]
    by_cases e:T=j.toNat
    ·rw[qB e,e];exact⟨rfl,rfl⟩
    ·rw[za e];exact⟨rfl,rfl⟩
  ·refine⟨rfl,⟨by show 0<=j*64+(u.mem.seg j.toNat).n;omega,by show(j*64+(u.mem.seg j.toNat).n) / 64<_;rw[w];exact f.2.1,by show(j*64+(u.mem.seg j.toNat).n) % 64+v<=64;rw[x];exact n⟩,?_,?_,?_,?_,by show _<=u.mem.free;omega,by show u.mem.count<=_;omega⟩<;>simp only[w,x]
   ·rw[Dy];exact⟨f.2.2,by rw[show((u.mem.seg j.toNat).bump v).gen=_ from C];omega,by rw[show((u.mem.seg j.toNat).bump v).kind=_ from D];omega,rfl⟩
   ·intro _;rw[Dy];refine⟨by rw[C];omega,by rw[D];omega,?_⟩;first | exact⟨rfl,rfl,rfl,rfl⟩ | exact⟨EO,rfl,rfl,rfl⟩
   ·intro p;exact absurd p f.2.2
   ·intro T g;rw[DE _ _ g]
 rw[za E]at h⊢
 by_cases s:(u.mem.take d i).2.2=0
 case neg=>rw[za s]at h;exact absurd h s
 rw[qB s]at h⊢
 have l:=k.mem.take d i
 have t:u.mem.take d i=({u.mem with count:=u.mem.count+1,free:=u.mem.free-1}.upd u.mem.first (Seg.new d i (u.mem.count+1)),(u.mem.first:Int),0)/\u.mem.free≠0:=by
  unfold Mem.take at s⊢
  rw[za (by omega)]at s⊢
  by_cases n:u.mem.free=0
  ·rw[qB n]at s;exact absurd s (by show ¬((2:Int)=0);decide)
  ·rw[za n];exact⟨rfl,n⟩
 obtain⟨t,q⟩:=t
 obtain⟨N,z⟩:=El k.mem q
 rw[t]at h l⊢
 generalize b:({u.mem with count:=u.mem.count+1,free:=u.mem.free-1}:Mem).upd u.mem.first (Seg.new d i (u.mem.count+1))=o at*
 simp only at h l⊢
 have I:=k.mem.count
 have G:o.seg u.mem.first=Seg.new d i (u.mem.count+1):=by rw[<-b,Dy]
 have m: ∀T,T≠u.mem.first->o.seg T=u.mem.seg T:=λT g=>by rw[<-b,DE _ _ g]
 have r:o.limit=u.mem.limit:=by rw[<-b];rfl
 have K:o.free=u.mem.free-1:=by rw[<-b];rfl
 have J:o.count=u.mem.count+1:=by rw[<-b];rfl
 obtain⟨A,M,n,y⟩:=Mem.bump_ok l h
 have en:((u.mem.first:Int)).toNat=u.mem.first:=by omega
 rw[en,G]at y n
 have F:(Seg.new d i (u.mem.count+1)).n=0:=rfl
 rw[F]at y n
 have c:=l.bump u.mem.first v
 rw[y]at c⊢
 have w:((u.mem.first:Int)*64+0) / 64=u.mem.first:=by omega
 have x:((u.mem.first:Int)*64+0) % 64=0:=by omega
 refine⟨⟨c,λT j=>?_⟩,?_⟩
 ·show(u.setCur d.toNat i.toNat ((u.mem.first:Int)+1)).cur T j=0\/_
  simp only[Sp.setCur]
  by_cases B:T=d.toNat/\j=i.toNat
  ·rw[qB B]
   refine .inr ⟨by omega,⟨by omega,by rw[Mem.upd_limit,r];omega,?_⟩,?_,?_⟩
   ·rw[show((u.mem.first:Int)+1-1).toNat=u.mem.first by omega,Dy];show u.mem.count+1≠0;omega
   ·rw[show((u.mem.first:Int)+1-1).toNat=u.mem.first by omega,Dy];show d=_;omega
   ·rw[show((u.mem.first:Int)+1-1).toNat=u.mem.first by omega,Dy];show i=_;omega
  ·rw[za B]
   rcases k.cur T j with p | ⟨H,f,C,D⟩
   ·exact .inl p
   ·have a:(u.cur T j-1).toNat≠u.mem.first:=λe=>f.2.2 (by rw[e];exact z)
    refine .inr ⟨H,⟨f.1,by rw[Mem.upd_limit,r];exact f.2.1,?_⟩,?_,?_⟩
    ·rw[DE _ _ a,m _ a];exact f.2.2
    ·rw[DE _ _ a,m _ a];exact C
    ·rw[DE _ _ a,m _ a];exact D
 ·refine⟨by show o.limit=_;exact r,⟨by show 0<=(u.mem.first:Int)*64+0;omega,by show((u.mem.first:Int)*64+0) / 64<_;rw[w];omega,by show((u.mem.first:Int)*64+0) % 64+v<=64;rw[x];omega⟩,?_,?_,?_,?_,by show _<=o.free;omega,by show o.count<=_;omega⟩<;>simp only[w,x,en]
  ·rw[Dy];exact⟨by show u.mem.count+1≠0;omega,rfl,rfl,rfl⟩
  ·intro p;exact absurd z p
  ·intro _;trivial
  ·intro T g;rw[DE _ _ g,m _ g]
theorem DG:type_of% @Sp.alloc_ok:=@Sp.alloc_ok
theorem Sp.alloc_can(e:SpOK u)(hm:AJ d i v)(j:1<=u.mem.free):(u.alloc d i v).2.2=0:=by
 unfold Sp.alloc
 rw[za (λh=>h hm)]
 by_cases b:u.cur d.toNat i.toNat≠0/\(u.mem.bump (u.cur d.toNat i.toNat-1) v).2.2=0
 ·rw[qB b]
 rw[za b]
 have k:=hm.1
 have hk:0<=i/\i<=3:=by have:=hm.2;omega
 have hn:1<=v/\v<=63:=by have:=hm.2;omega
 have c:=e.mem.count
 have a:u.mem.take d i=({u.mem with count:=u.mem.count+1,free:=u.mem.free-1}.upd u.mem.first (Seg.new d i (u.mem.count+1)),(u.mem.first:Int),0):=by
  unfold Mem.take
  rw[za (by omega),za (by omega)]
 obtain⟨g,f⟩:=El e.mem (by omega:u.mem.free≠0)
 rw[a,qB rfl]
 refine Mem.bump_can ⟨by show(0:Int)<=(u.mem.first:Int);omega,by show(u.mem.first:Int)< (u.mem.limit:Int);omega,?_⟩ hn.1 ?_
 ·show((Mem.upd _ _ _).seg ((u.mem.first:Int)).toNat).taken≠0
  rw[show((u.mem.first:Int)).toNat=u.mem.first by omega,Dy];show u.mem.count+1≠0;omega
 ·show((Mem.upd _ _ _).seg ((u.mem.first:Int)).toNat).n+v<=64
  rw[show((u.mem.first:Int)).toNat=u.mem.first by omega,Dy];show 0+v<=64;omega
theorem Sp.alloc_fail(c:SpOK u)(h:(u.alloc d i v).2.2≠0):(u.alloc d i v).1=u:=by
 by_cases hm:AJ d i v
 case neg=>unfold Sp.alloc;rw[qB hm]
 by_cases e:u.mem.free=0
 ·have g:=hm.1
  have hk:0<=i/\i<=3:=by have:=hm.2;omega
  unfold Sp.alloc at*
  rw[za (λf=>f hm)]at h⊢
  by_cases b:u.cur d.toNat i.toNat≠0/\(u.mem.bump (u.cur d.toNat i.toNat-1) v).2.2=0
  ·rw[qB b]at h;exact absurd rfl h
  rw[za b]at h⊢
  have a:u.mem.take d i=(u.mem,0,2):=by unfold Mem.take;rw[za (by omega),qB e]
  rw[a,za (by decide: ¬((2:Int)=0))]
 ·have:0<=u.mem.free:=by rw[c.mem.free];omega
  exact absurd (Sp.alloc_can c hm (by omega)) h
def Mem.sets(m:Mem)(a:Int):List Int->Mem
 | []=>m
 | w::ws=>(if m.used a then m.set a w else m).sets (a+1) ws
theorem Mem.sets_snoc: ∀(b:List Int) (m:Mem) (a w:Int),m.sets a (b++[w])=if(m.sets a b).used (a+b.length)then(m.sets a b).set (a+b.length) w else m.sets a b
 | [],m,a,w=>by simp[Mem.sets]
 | u::b,m,a,w=>by
  simp only[List.cons_append,Mem.sets,List.length_cons]
  rw[Mem.sets_snoc b,show a+1+(b.length:Int)=a+((b.length+1:Nat):Int)by omega]
  rfl
theorem bD.sets: ∀(ws:List Int) {m:Mem} (b:bD m) (a:Int),(∀w∈ws,aD w)->bD (m.sets a ws)
 | [],m,b,a,_=>b
 | w::ws,m,b,a,h=>by
  simp only[Mem.sets]
  refine bD.sets ws ?_ _ (λu c=>h u (Dt _ c))
  split
  ·exact b.set a (h w Ee)
  ·exact b
structure bG (m m':Mem):Prop where
 limit:m'.limit=m.limit
 seg: ∀j,(m'.seg j).gen=(m.seg j).gen/\(m'.seg j).kind=(m.seg j).kind/\(m'.seg j).n=(m.seg j).n/\(m'.seg j).taken=(m.seg j).taken/\(m'.seg j).cards=(m.seg j).cards
 free:m'.free=m.free
 count:m'.count=m.count
theorem bG.refl(m:Mem):bG m m:=⟨rfl,λ_=>⟨rfl,rfl,rfl,rfl,rfl⟩,rfl,rfl⟩
theorem bG.trans{a b c:Mem}(h:bG a b)(k:bG b c):bG a c:=
 ⟨k.limit.trans h.limit,λj=>⟨(k.seg j).1.trans (h.seg j).1,(k.seg j).2.1.trans (h.seg j).2.1,(k.seg j).2.2.1.trans (h.seg j).2.2.1,(k.seg j).2.2.2.1.trans (h.seg j).2.2.2.1,(k.seg j).2.2.2.2.trans (h.seg j).2.2.2.2⟩,k.free.trans h.free,k.count.trans h.count⟩
theorem bG.set(m:Mem)(a w:Int):bG m (m.set a w):=⟨rfl,λj=>by
 unfold Mem.set;rw[Do]
 by_cases h:j=(a / 64).toNat
 ·rw[qB h,h];exact⟨rfl,rfl,rfl,rfl,rfl⟩
 ·rw[za h];exact⟨rfl,rfl,rfl,rfl,rfl⟩,rfl,rfl⟩
theorem bG.sets: ∀(ws:List Int) (m:Mem) (a:Int),bG m (m.sets a ws)
 | [],m,a=>bG.refl m
 | w::ws,m,a=>by
  simp only[Mem.sets]
  refine bG.trans ?_ (bG.sets ws _ _)
  split
  ·exact bG.set m a w
  ·exact bG.refl m
theorem bG.has{a:Mem}(h:bG j a){k:Int}:a.has k ↔ j.has k:=by
 unfold Mem.has;rw[h.limit,(h.seg _).2.2.2.1]
theorem bG.used{m b:Mem}(h:bG m b){a:Int}:b.used a ↔ m.used a:=by
 unfold Mem.used;rw[h.has,(h.seg _).2.2.1]
theorem Mem.set_get{m:Mem}(x:Int)(f:0<=x)(c:0<=d):(m.set d i).get x=if x=d then i else m.get x:=by
 unfold Mem.get Mem.set
 rw[Do]
 by_cases a:(x / 64).toNat=(d / 64).toNat
 ·rw[qB a]
  simp only[Seg.set]
  by_cases b:(x % 64).toNat=(d % 64).toNat
  ·rw[qB b,qB (by omega)]
  ·rw[za b,za (by intro e;subst e;exact b rfl),a]
 ·rw[za a,za (by intro e;subst e;exact a rfl)]
theorem DW:type_of% @Mem.set_get:=@Mem.set_get
theorem Mem.sets_get: ∀(b:List Int) {m:Mem} {a:Int} (x:Int),0<=x->0<=a->(∀i:Nat,i<b.length->m.used (a+i))->(m.sets a b).get x=if a<=x/\x<a+b.length then b.getD (x-a).toNat 0 else m.get x
 | [],m,a,x,hx,ha,hu=>by simp only[Mem.sets];rw[za (by simp only[List.length_nil];omega)]
 | w::b,m,a,x,hx,ha,hu=>by
  have e:m.used a:=by have:=hu 0 (by simp);simpa using this
  simp only[Mem.sets]
  rw[qB e,Mem.sets_get b x hx (by omega) (λi f=>(bG.set m a w).used.2 (by have:=hu (i+1) (by simp;omega);rw[show a+1+(i:Int)=a+((i+1:Nat):Int)by omega];exact this))]
  rw[DW x hx ha]
  by_cases c:x=a
  ·subst c
   rw[za (by omega),qB rfl,qB ⟨by omega,by simp;omega⟩]
   simp
  ·by_cases d:a+1<=x/\x<a+1+b.length
   ·rw[qB d,qB ⟨by omega,by simp;omega⟩]
    have:(x-a).toNat=(x-(a+1)).toNat+1:=by omega
    rw[this];simp
   ·rw[za d,za c,za (by simp;omega)]
def ls(tag addr:Int):Int×Int:=if ¬(tag=1\/tag=2\/tag=3\/tag=6)then(0,1)else if 0<=addr/\addr<65536 then(addr*8+tag,0)else(0,18)
def Sp.put(s:Sp)(kind tag:Int)(ws:List Int):Sp×Int×Int:=
 if(s.alloc 0 kind ws.length).2.2=0 then({(s.alloc 0 kind ws.length).1 with mem:=(s.alloc 0 kind ws.length).1.mem.sets (s.alloc 0 kind ws.length).2.1 ws},ls tag (s.alloc 0 kind ws.length).2.1)
 else(s,0,(s.alloc 0 kind ws.length).2.2)
def AB(o:Option (Blk×Hp))(kind tag:Int)(ws:List Int):Option (Blk×Hp):=
 match o with
 | none=>none
 | some (b,x)=>some (b,{x with sp:=(x.sp.put kind tag ws).1})
def zH(o:Option (Blk×Hp))(kind tag:Int)(ws:List Int):Int×Int:=
 match o with
 | none=>(0,2)
 | some (_,x)=>(x.sp.put kind tag ws).2
def sP(o:Option (Blk×Hp)):Prop:=(yP o).count<4611686018427387904
theorem SpOK.sets(b:SpOK u)(a:Int){ws:List Int}(c: ∀w∈ws,aD w):SpOK {u with mem:=u.mem.sets a ws}:=
 b.withMem (bD.sets ws b.mem a c) (λk h=>(bG.sets ws u.mem a).has.2 h) (λk=>⟨((bG.sets ws u.mem a).seg k).1,((bG.sets ws u.mem a).seg k).2.1⟩)
theorem oE{u:zW}{ws:List Int}(V:View H o r)(c:dO H u (yE ws))(F:k=ws.length)(hw: ∀w∈ws,aD w)
  (hd: ∀aj,aj∈kd u->aj ∉ own r) (hc:sP r) (ht:Ah i) (hl:ws.length<=1000):
  fW.C o d i u k A H (λv y=>v=.tuple #[vu (zH r d i ws).1,vi (zH r d i ws).2]/\View y o (AB r d i ws)/\Fr (own r) H y):=by
 subst F
 refine HC.via λR s=>fW.link ?_
 unfold fW.pt zY
 refine HC.mono (nC V) ?_
 rintro _ W ⟨rfl,rfl⟩
 refine⟨_,rfl,?_⟩
 cases V with
 | nobody=>rw[qB (show(none:Option (Blk×Hp)).isNone=true from rfl)];exact s _ _ ⟨rfl,.nobody,Fr.refl _ _⟩
 | empty h=>rw[qB (show(none:Option (Blk×Hp)).isNone=true from rfl)];exact s _ _ ⟨rfl,.empty h,Fr.refl _ _⟩
 | @real b x h I=>
  rw[za (show ¬(some (b,x)).isNone=true from Bool.false_ne_true)]
  refine⟨_,rfl,_,h.hPtr,_,rfl,_,h.cd.cPtr,?_⟩
  refine HC.mono (l9 h.cd.sp I hc) ?_
  rintro _ H2 ⟨rfl,Q,Z⟩
  refine⟨_,_,rfl,?_⟩
  have f:=h.withSp Z (λaj D=>by simp at D;omega) Q
  have B:Fr (own (some (b,x))) W H2:=Z.mono (λaj D _=>by simp at D;simp[own];omega)
  by_cases t:(x.sp.alloc 0 d ws.length).2.2=0
  case neg=>
   rw[za t]
   have e:x.sp.put d i ws=(x.sp,0,(x.sp.alloc 0 d ws.length).2.2):=by unfold Sp.put;rw[za t]
   have K:zH (some (b,x)) d i ws=(0,(x.sp.alloc 0 d ws.length).2.2):=by show(x.sp.put d i ws).2=_;rw[e]
   have L:AB (some (b,x)) d i ws=some (b,x):=by show some (b,{x with sp:=(x.sp.put d i ws).1})=_;rw[e]
   rw[K,L]at s
   rw[Sp.alloc_fail I t]at f
   exact s _ _ ⟨rfl,.real f I,B⟩
  rw[qB t]
  obtain⟨J,gr⟩:=DG I t
  have e:x.sp.put d i ws=({(x.sp.alloc 0 d ws.length).1 with mem:=(x.sp.alloc 0 d ws.length).1.mem.sets (x.sp.alloc 0 d ws.length).2.1 ws},ls i (x.sp.alloc 0 d ws.length).2.1):=by unfold Sp.put;rw[qB t]
  have K:zH (some (b,x)) d i ws=ls i (x.sp.alloc 0 d ws.length).2.1:=by show(x.sp.put d i ws).2=_;rw[e]
  have L:AB (some (b,x)) d i ws=some (b,{x with sp:={(x.sp.alloc 0 d ws.length).1 with mem:=(x.sp.alloc 0 d ws.length).1.mem.sets (x.sp.alloc 0 d ws.length).2.1 ws}}):=by show some (b,{x with sp:=(x.sp.put d i ws).1})=_;rw[e]
  rw[K,L]at s
  generalize ac:(x.sp.alloc 0 d ws.length).1=U at*
  generalize a9:(x.sp.alloc 0 d ws.length).2.1=a at*
  have a1:=I.mem.lim
  have a0:=gr.addr
  refine⟨λaj y=>(0<=aj/\aj<=ws.length)/\HpAt y b {x with sp:={U with mem:=U.mem.sets a (ws.take aj.toNat)}}/\Fr (own (some (b,x))) W y,λaj _=>(ws.length-aj).toNat,⟨by omega,by simpa[Mem.sets]using f,B⟩,?_⟩
  rintro aj X ⟨D,g,M⟩
  by_cases m:aj< (ws.length:Int)
  ·rw[qB m]
   have E:aj.toNat<ws.length:=by omega
   have p:dO X u (yE ws):=by
    cases u with
    | none=>exact c
    | some T=>exact M.rowAt (hd _ (by simp)) c
   cases u with
   | none=>
    exfalso
    have e:yE ws=[]:=c
    have:ws.length=0:=by simpa[yE]using congrArg List.length e
    omega
   | some T=>
    refine⟨T,rfl,⟨D.1,m⟩,ws[aj.toNat],?_,?_⟩
    ·have:=gE (show aL X T 0 (yE ws)from p) aj.toNat (vu (ws[aj.toNat])) (by simp[yE,E])
     rw[Dd];rw[CQ]at this;exact this
    refine⟨_,g.hPtr,_,rfl,_,g.cd.cPtr,_,rfl,_,g.cd.sp.memPtr,?_⟩
    have G:bD (U.mem.sets a (ws.take aj.toNat)):=bD.sets _ J.mem a (λw S=>hw w (List.mem_of_mem_take S))
    rw[xT (n:=a+aj) (by omega),xT (n:=aj+1) (by omega)]
    refine HC.mono (iQ g.cd.sp.mem G (by omega)) ?_
    rintro _ H4 ⟨rfl,P,f4⟩
    refine⟨_,rfl,⟨by omega,?_,M.trans (f4.mono (λj O _=>by simp at O;simp[own];omega))⟩,by show((ws.length:Int)-(aj+1)).toNat< ((ws.length:Int)-aj).toNat;omega⟩
    have h4:=g.withMem f4 (λj O=>by simp at O;omega) P
    have et:ws.take (aj+1).toNat=ws.take aj.toNat++[ws[aj.toNat]]:=by
     rw[show(aj+1).toNat=aj.toNat+1 by omega,Db E]
    have el:((ws.take aj.toNat).length:Int)=aj:=by rw[Di];omega
    rw[et,Mem.sets_snoc,el]
    exact h4
  ·rw[za m]
   have N:aj.toNat=ws.length:=by omega
   rw[N,D9]at g
   refine HC.mono (lG ht (by omega)) ?_
   rintro _ H5 ⟨rfl,Y⟩
   have ev:(if ¬(i=1\/i=2\/i=3\/i=6)then Value.tuple #[vu 0,vi 1]else if 0<=a/\a<65536 then .tuple #[vu (a*8+i),vi 0]else .tuple #[vu 0,vi 18])=.tuple #[vu (ls i a).1,vi (ls i a).2]:=by
    by_cases q:i=1\/i=2\/i=3\/i=6
    ·by_cases f:0<=a/\a<65536
     ·have z:ls i a=(a*8+i,0):=by unfold ls;rw[za (λl=>l q),qB f]
      rw[z,za (λl=>l q),qB f]
     ·have z:ls i a=(0,18):=by unfold ls;rw[za (λl=>l q),za f]
      rw[z,za (λl=>l q),za f]
    ·have z:ls i a=(0,1):=by unfold ls;rw[qB q]
     rw[z,qB q]
   rw[ev]
   exact⟨_,_,rfl,s _ _ ⟨rfl,.real (g.ext Y) (J.sets a hw),M.trans Y.fr⟩⟩
def nt(o:Option (Blk×Hp))(kind more:Int)(ws:List Int):Option (Blk×Hp):=
 if ¬((1<=kind/\kind<=13)/\more<281474976710656)then o
 else if 62<ws.length then o
 else AB o (zh kind) 3 ((more*65536+ws.length*256+kind*8+5)::ws)
def lq(o:Option (Blk×Hp))(kind more:Int)(ws:List Int):Int×Int:=
 if ¬((1<=kind/\kind<=13)/\more<281474976710656)then(0,1)
 else if 62<ws.length then(0,6)
 else zH o (zh kind) 3 ((more*65536+ws.length*256+kind*8+5)::ws)
theorem View.own_lt(V:View H o r): ∀i,i∈own r->i<H.size:=by
 cases V with
 | nobody=>intro i a;simp[own]at a
 | empty h=>intro i a;simp[own]at a
 | real h b=>intro i a;exact h.lt i (by simp[own]at a;simp[Blk.all];omega)
theorem pT{B:zW}{ws:List Int}(V:View H o r)(b:dO H B (yE ws))(y:k=ws.length)(W: ∀w∈ws,aD w)
  (hk:Ah d) (n:aD i) (T:sP r) (hl:ws.length<=1000000):
  fP.C o d i B k A H (λv J=>v=.tuple #[vu (lq r d i ws).1,vi (lq r d i ws).2]/\View J o (nt r d i ws)/\Fr (own r) H J):=by
 subst y
 refine HC.via λR s=>fP.link ?_
 unfold fP.pt
 refine HC.mono (nq hk (by decide) n) ?_
 rintro _ Y ⟨rfl,t⟩
 rw[sJ]
 refine⟨_,_,rfl,?_⟩
 by_cases a:(1<=d/\d<=13)/\i<281474976710656
 case neg=>
  have l: ¬((1<=d/\d<=13)/\((0:Int)<=0/\(0:Int)<=62)/\i<281474976710656):=λh=>a ⟨h.1,h.2.2⟩
  rw[za l,za (by decide)]
  have e:lq r d i ws=(0,1):=by unfold lq;rw[qB a]
  have g:nt r d i ws=r:=by unfold nt;rw[qB a]
  rw[e,g]at s
  exact s _ _ ⟨rfl,V.ext t,t.fr⟩
 have l:(1<=d/\d<=13)/\((0:Int)<=0/\(0:Int)<=62)/\i<281474976710656:=⟨a.1,by decide,a.2⟩
 rw[qB l,qB rfl]
 by_cases z:62<ws.length
 ·rw[qB (by omega)]
  have e:lq r d i ws=(0,6):=by unfold lq;rw[za (λm=>m a),qB z]
  have g:nt r d i ws=r:=by unfold nt;rw[za (λm=>m a),qB z]
  rw[e,g]at s
  exact s _ _ ⟨rfl,V.ext t,t.fr⟩
 rw[za (by omega)]
 refine HC.mono (nq hk (by omega) n) ?_
 rintro _ Z ⟨rfl,g⟩
 rw[sJ]
 refine⟨_,_,rfl,?_⟩
 have D:(1<=d/\d<=13)/\((0:Int)<=(ws.length:Int)/\(ws.length:Int)<=62)/\i<281474976710656:=⟨a.1,by omega,a.2⟩
 rw[qB D]
 refine HC.mono qX ?_
 rintro _ H3 ⟨rfl,rfl⟩
 refine⟨_,rfl,?_⟩
 intro b4 L E x
 have c:=t.trans g
 have f:=c.trans (CI x)
 have S:=aF E x
 have U:=n.1
 have p:dO L B (yE ws):=by
  cases B with
  | none=>exact b
  | some la=>exact f.rowAt b
 refine cI (ys:=yE ws) (xs:=[vu (i*65536+ws.length*256+d*8+5)]) ⟨rfl,_,S,rfl,CU _,rfl,λj hj=>?_⟩ p (by simp[yE]) (gO ws) rfl (by omega) ?_
 ·have:j=0:=by omega
  subst this;rfl
 intro p5 c5 M X P F
 have u:Ext H M:=f.fr_trans P (λab G=>by simp at G;have:=c.size;omega)
 have N:=V.ext u
 refine HC.mono (oE (ws:=(i*65536+ws.length*256+d*8+5)::ws) N X.src (by simp;omega) (λw q=>?_) (λab G I=>?_) T (by decide) (by simp;omega)) ?_
 ·rcases CR.1 q with rfl | q
  ·exact⟨by omega,by omega⟩
  ·exact W w q
 ·have h6:=V.own_lt ab I
  have h7:=f.size
  have h8:=c.size
  rcases F ab G with K | K
  ·simp at K;omega
  ·omega
 rintro _ H6 ⟨rfl,O,Q⟩
 refine⟨_,_,rfl,?_⟩
 have e:lq r d i ws=zH r (zh d) 3 ((i*65536+ws.length*256+d*8+5)::ws):=by unfold lq;rw[za (λm=>m a),za z]
 have g:nt r d i ws=AB r (zh d) 3 ((i*65536+ws.length*256+d*8+5)::ws):=by unfold nt;rw[za (λm=>m a),za z]
 rw[e,g]at s
 exact s _ _ ⟨rfl,O,u.fr.trans Q⟩
def Sp.cf(s:Sp):Int:=s.mem.count+s.mem.free
theorem Sp.cf_count(a:SpOK u)(h:u.cf<4611686018427387904):u.mem.count<4611686018427387904:=by
 have:=a.mem.free;unfold Sp.cf at h;omega
theorem Mem.take_cf(m:Mem)(g k:Int):(m.take g k).1.count+(m.take g k).1.free=m.count+m.free:=by
 unfold Mem.take
 split
 ·rfl
 split
 ·rfl
 ·show m.count+1+(m.free-1)=_;omega
theorem Sp.alloc_cf(s:Sp)(g k n:Int):(s.alloc g k n).1.cf=s.cf:=by
 unfold Sp.alloc Sp.cf
 split
 ·rfl
 split
 ·show(s.mem.bump _ _).1.count+(s.mem.bump _ _).1.free=_
  rw[(Em _ _ _).2.1,(Em _ _ _).2.2]
 split
 ·show((s.mem.take g k).1.bump _ _).1.count+((s.mem.take g k).1.bump _ _).1.free=_
  rw[(Em _ _ _).2.1,(Em _ _ _).2.2]
  exact Mem.take_cf _ _ _
 ·rfl
structure Keep (m m':Mem):Prop where
 limit:m'.limit=m.limit
 used: ∀a,m.used a->m'.used a/\m'.get a=m.get a/\(m'.seg (a / 64).toNat).kind=(m.seg (a / 64).toNat).kind/\(m'.seg (a / 64).toNat).gen=(m.seg (a / 64).toNat).gen/\(m.seg (a / 64).toNat).n<=(m'.seg (a / 64).toNat).n
theorem Keep.refl(m:Mem):Keep m m:=⟨rfl,λa h=>⟨h,rfl,rfl,rfl,Dq _⟩⟩
theorem Keep.trans{a b c:Mem}(h:Keep a b)(k:Keep b c):Keep a c:=
 ⟨k.limit.trans h.limit,λx j=>by
  obtain⟨d,e,f,g,i⟩:=h.used x j
  obtain⟨l,m,n,o,p⟩:=k.used x d
  exact⟨l,m.trans e,n.trans f,o.trans g,DZ i p⟩⟩
structure kE (m:Mem) (w kind more:Int) (ws:List Int):Prop where
 word:aD w
 obj:m.isObj w
 kindEq:hk (m.get (w / 8))=kind
 lenEq:hn (m.get (w / 8))=ws.length
 moreEq:hm (m.get (w / 8))=more
 get: ∀(i:Nat) (h:i<ws.length),m.get (w / 8+1+i)=ws[i]
theorem kE.typ(h:kE j d i v C):j.typ d=i:=by unfold Mem.typ;rw[qB h.obj];exact h.kindEq
theorem kE.len(h:kE j d i v C):j.len d=C.length:=by unfold Mem.len;rw[qB h.obj];exact h.lenEq
theorem kE.usedHead(h:kE j d i v C):j.used (d / 8):=h.obj.1.used h.word
theorem kE.usedAt{a:Int}(h:kE j d v a C)(hn: ∀k,(j.seg k).n<=64){i:Nat}(b:i<C.length):j.used (d / 8+1+i):=
 h.obj.used h.word (hn _) ⟨by omega,by rw[h.len];omega⟩
theorem kE.keep{f:Mem}{a:Int}(h:kE j d v a C)(hn: ∀k,(j.seg k).n<=64)(k:Keep j f):kE f d v a C:=by
 obtain⟨g,b,l,_,m⟩:=k.used _ h.usedHead
 have c:=h.obj
 refine⟨h.word,⟨⟨c.1.1,c.1.2.1,g.2.1,?_,g.2.2⟩,by rw[b];exact c.2.1,?_⟩,by rw[b];exact h.kindEq,by rw[b];exact h.lenEq,by rw[b];exact h.moreEq,λi e=>?_⟩
 ·rw[l,b];exact c.1.2.2.2.1
 ·rw[b];have:=c.2.2;omega
 ·rw[(k.used _ (h.usedAt hn e)).2.1];exact h.get i e
theorem Grown.lay{m h:Mem}{a g k:Int}(c:Grown m h a C.length g k)(G:bD m):Keep m (h.sets a C)/\(∀x,0<=x->(h.sets a C).get x=if a<=x/\x<a+C.length then C.getD (x-a).toNat 0 else h.get x)/\(∀i:Nat,i<C.length->(h.sets a C).used (a+i)):=by
 have l:=bG.sets C h a
 obtain⟨u,v,E⟩:=c.addr
 have s: ∀i:Nat,i<C.length->h.used (a+i):=λi q=>by
  have p:(a+i) / 64=a / 64:=by omega
  have w:(a+i) % 64=a % 64+i:=by omega
  refine⟨by omega,?_,?_⟩
  ·rw[p];exact⟨by omega,by rw[c.limit];exact v,c.new.1⟩
  ·rw[p,w,c.new.2.2.2];omega
 have d:=λx (e:0<=x)=>Mem.sets_get C (m:=h) (a:=a) x e u s
 refine⟨⟨l.limit.trans c.limit,λx e=>?_⟩,d,λi q=>l.used.2 (s i q)⟩
 have n:=e.1
 have b:=l.seg (x / 64).toNat
 by_cases f:(x / 64).toNat=(a / 64).toNat
 ·have r:(m.seg (a / 64).toNat).taken≠0:=by rw[<-f];exact e.2.1.2.2
  obtain⟨z,A,t,B,F,D⟩:=c.old r
  have o:=e.2.2
  rw[f,t]at o
  have y:x<a:=by omega
  refine⟨l.used.2 ⟨n,⟨e.2.1.1,by rw[c.limit];exact e.2.1.2.1,by rw[f,D];exact r⟩,by rw[f,c.new.2.2.2];omega⟩,?_,?_,?_,?_⟩
  ·rw[d x n,za (by omega)];unfold Mem.get;rw[f,B]
  ·rw[b.2.1,f,c.new.2.2.1,A]
  ·rw[b.1,f,c.new.2.1,z]
  ·rw[b.2.2.1,f,c.new.2.2.2,t];omega
 ·have j:=c.others _ f
  refine⟨l.used.2 ⟨n,⟨e.2.1.1,by rw[c.limit];exact e.2.1.2.1,by rw[j];exact e.2.1.2.2⟩,by rw[j];exact e.2.2⟩,?_,?_,?_,?_⟩
  ·rw[d x n,za (by omega)];unfold Mem.get;rw[j]
  ·rw[b.2.1,j]
  ·rw[b.1,j]
  ·rw[b.2.2.1,j];omega
theorem Sp.put_ok(f:SpOK u)(hm:AJ 0 d C.length)(h:i=1\/i=2\/i=3\/i=6)(j: ∀w∈C,aD w)(b:(u.alloc 0 d C.length).2.2=0):
  ∃a:Int,(u.put d i C).2=(a*8+i,0)/\Grown u.mem (u.alloc 0 d C.length).1.mem a C.length 0 d/\(u.put d i C).1.mem=(u.alloc 0 d C.length).1.mem.sets a C/\SpOK (u.put d i C).1/\a<65536/\(u.put d i C).1.cur=(u.alloc 0 d C.length).1.cur:=by
 obtain⟨c,e⟩:=DG f b
 have n:=f.mem.lim
 obtain⟨k,l,m⟩:=e.addr
 refine⟨(u.alloc 0 d C.length).2.1,?_,e,?_,?_,by omega,?_⟩
 ·unfold Sp.put;rw[qB b];unfold ls;rw[za (λg=>g h),qB (by omega)]
 ·unfold Sp.put;rw[qB b]
 ·unfold Sp.put;rw[qB b];exact c.sets _ j
 ·unfold Sp.put;rw[qB b]
theorem tY{kind more:Int}{n:Nat}(b:1<=kind/\kind<=13)(c:0<=more/\more<281474976710656)(a:n<=62):
  jQ (more*65536+n*256+kind*8+5)/\hk (more*65536+n*256+kind*8+5)=kind/\hn (more*65536+n*256+kind*8+5)=n/\hm (more*65536+n*256+kind*8+5)=more:=by
 unfold jQ hk hn hm
 refine⟨⟨by omega,by omega⟩,by omega,by omega,by omega⟩
theorem Mem.store_get{m:Mem}(a:m.used d)(x:Int)(b:0<=x):(m.store d i).1.get x=if x=d then i else m.get x:=by
 have e:m.store d i=(m.set d i).mark (d / 64) (d % 64 / 16) ((m.set d i).younger ((m.set d i).seg (d / 64).toNat) i (((m.set d i).seg (d / 64).toNat).cards (d % 64 / 16).toNat)):=by unfold Mem.store;rw[qB a]
 rw[e,<-DW (m:=m) x b a.1]
 unfold Mem.get
 rw[(Mem.mark_seg _).2.2.2]
theorem DI:type_of% @Mem.store_get:=@Mem.store_get
theorem Mem.mark_lim:(j.mark d i v).1.limit=j.limit/\(j.mark d i v).1.free=j.free/\(j.mark d i v).1.count=j.count:=by
 unfold Mem.mark
 split
 ·exact⟨rfl,rfl,rfl⟩
 split
 ·exact⟨rfl,rfl,rfl⟩
 ·exact⟨rfl,rfl,rfl⟩
theorem Mem.store_lim{m:Mem}:(m.store d i).1.limit=m.limit/\(m.store d i).1.free=m.free/\(m.store d i).1.count=m.count:=by
 unfold Mem.store
 split
 ·exact Mem.mark_lim
 ·exact⟨rfl,rfl,rfl⟩
theorem DO:type_of% @Mem.store_lim:=@Mem.store_lim
theorem Mem.store_used{m:Mem}{a w x:Int}:(m.store a w).1.used x ↔ m.used x:=by
 unfold Mem.used
 rw[Mem.store_has,(Dh _).2.2]
theorem Dx:type_of% @Mem.store_used:=@Mem.store_used
theorem Mem.mark_ok(f:bD j)(a:j.has d)(c:0<=i/\i<4)(e:0<=v/\v<=5):(j.mark d i v).2=0:=by
 unfold Mem.mark
 rw[za (λb=>b a),za (by omega)]
theorem bD.genOf(a:bD j)(w:Int):0<=(j.genOf w).1:=by
 unfold Mem.genOf
 split
 ·simp only
  split
  ·exact(a.seg _).gen.1
  ·exact Dq _
 ·exact Dq _
theorem Mem.store_0(g:bD j)(b:j.used d)(f:aD i):(j.store d i).2=0:=by
 have e:j.store d i=(j.set d i).mark (d / 64) (d % 64 / 16) ((j.set d i).younger ((j.set d i).seg (d / 64).toNat) i (((j.set d i).seg (d / 64).toNat).cards (d % 64 / 16).toNat)):=by unfold Mem.store;rw[qB b]
 have a:=g.set d f
 rw[e]
 refine Mem.mark_ok a (D6.2 b.2.1) (by omega) ?_
 have c:=(a.seg (d / 64).toNat).cards (d % 64 / 16).toNat
 have h:=a.genOf i
 unfold Mem.younger
 split
 ·omega
 ·exact c
def Sep(w:Int)(n:Nat)(w':Int)(n':Nat):Prop:= ∀i j:Nat,i<=n->j<=n'->w / 8+i≠w' / 8+j
theorem Sep.symm{n a:Nat}(h:Sep d n i a):Sep i a d n:=λf j b c e=>h j f c b e.symm
theorem kE.set{m:Mem}{w a b v:Int}{ws:List Int}(h:kE m w a b ws)(o:bD m)(l:A<ws.length):kE (m.store (w / 8+1+A) v).1 w a b (ws.set A v):=by
 have f: ∀k,(m.seg k).n<=64:=λk=>(o.seg k).n.2
 have i:=h.usedAt f l
 have p:0<=w / 8:=by have:=h.word.1;omega
 have c:=h.obj
 have d:(m.store (w / 8+1+A) v).1.get (w / 8)=m.get (w / 8):=by rw[DI i _ p,za (by omega)]
 refine⟨h.word,⟨⟨c.1.1,c.1.2.1,Mem.store_has.2 c.1.2.2.1,?_,?_⟩,by rw[d];exact c.2.1,?_⟩,by rw[d];exact h.kindEq,by rw[d,EB];exact h.lenEq,by rw[d];exact h.moreEq,λj g=>?_⟩
 ·rw[d,(Dh _).2.1];exact c.1.2.2.2.1
 ·rw[(Dh _).2.2];exact c.1.2.2.2.2
 ·rw[d,(Dh _).2.2];exact c.2.2
 ·rw[EB]at g
  rw[DI i _ (by omega),List.getElem_set]
  by_cases e:A=j
  ·subst e;rw[qB rfl,qB rfl]
  ·rw[za (by omega),za e];exact h.get j g
def Mem.isPair(m:Mem)(w:Int):Prop:=(m.atW w 1 0\/m.atW w 2 1)/\w / 8 % 2=0
instance (m:Mem) (w:Int):Decidable (m.isPair w):=by unfold Mem.isPair;infer_instance
theorem pU(V:View H o r)(i:aD d):
  fT.C o d H (λv k=> ∃a:Int,v=.tuple #[vi a,.bool (decide ((yP r).isPair d))]/\((yP r).isPair d->a=d / 8)/\Ext H k):=by
 refine HC.via λR j=>fT.link ?_
 unfold fT.pt
 have f:0<=d / 8:=by have:=i.1;omega
 refine HC.mono (pS V i) ?_
 rintro _ n ⟨a,rfl,m,g⟩
 refine⟨_,_,rfl,?_⟩
 by_cases b:(yP r).atW d 1 0
 ·rw[qB (zX b),m b,jx f]
  refine j _ _ ⟨_,?_,λ_=>rfl,g⟩
  refine BN ?_
  rw[Ej,beq_iff_eq,CN]
  exact⟨λh=>⟨.inl b,h⟩,λh=>h.2⟩
 rw[za (by simpa using b)]
 refine HC.mono (pS (V.ext g) i) ?_
 rintro _ p ⟨q,rfl,e,l⟩
 refine⟨_,_,rfl,j _ _ ⟨_,?_,λh=>e (h.1.resolve_left b),g.trans l⟩⟩
 refine BN ?_
 by_cases c:(yP r).atW d 2 1
 ·rw[e c,jx f,zX c,Bool.true_and,Ej,beq_iff_eq,CN]
  exact⟨λh=>⟨.inr c,h⟩,λh=>h.2⟩
 ·rw[zQ c,Bool.false_and,zQ]
  exact λh=>h.1.elim b c
theorem nD(V:View H o r)(f:aD d):
  eX.C o d H (λv b=>v=.bool (decide ((yP r).isPair d))/\Ext H b):=by
 refine HC.via λR e=>eX.link ?_
 unfold eX.pt
 refine HC.mono (pU V f) ?_
 rintro _ g ⟨a,rfl,h,c⟩
 exact⟨_,_,rfl,e _ _ ⟨rfl,c⟩⟩
theorem Mem.isPair.addr(h:j.isPair d)(a:aD d):0<=d / 8/\d / 8<65536:=by
 have:=a.1
 refine⟨by omega,?_⟩
 rcases h.1 with h | h
 ·exact h.1.2
 ·exact h.1.2
def nT(o:Option (Blk×Hp))(w i v:Int):Option (Blk×Hp):=
 match o with
 | none=>none
 | some (b,x)=>some (b,x.setMem (if x.sp.mem.isPair w then(x.sp.mem.store (w / 8+i) v).1 else x.sp.mem))
def hsetE(o:Option (Blk×Hp))(w i v:Int):Int:=if(yP o).isPair w then((yP o).store (w / 8+i) v).2 else 3
theorem rg(V:View H o r)(y:aD d)(F:0<=i/\i<=1)(g:aD v):
  gW.C o d i v H (λu t=>u=vi (hsetE r d i v)/\View t o (nT r d i v)/\Fr (own r) H t):=by
 refine HC.via λR p=>gW.link ?_
 unfold gW.pt zY
 refine HC.mono (pU V y) ?_
 rintro _ B ⟨a,rfl,A,k⟩
 refine⟨_,_,rfl,?_⟩
 by_cases c:(yP r).isPair d
 case neg=>
  rw[za (by simpa using c)]
  have e:hsetE r d i v=3:=by unfold hsetE;rw[za c]
  have l:nT r d i v=r:=by
   unfold nT
   match r,c with
   | none,_=>rfl
   | some (b,x),c=>
    have f: ¬x.sp.mem.isPair d:=c
    simp only;rw[za f];rfl
  rw[e,l]at p
  exact p _ _ ⟨rfl,V.ext k,k.fr⟩
 rw[qB (zX c),A c]
 have E:=c.addr y
 cases V with
 | nobody=>exact absurd (c.1.elim (λh=>h.2.2.1) (λh=>h.2.2.1)) nr
 | empty h=>exact absurd (c.1.elim (λh=>h.2.2.1) (λh=>h.2.2.1)) nr
 | @real b x h z=>
  have m:=h.ext k
  have f:x.sp.mem.isPair d:=c
  refine⟨_,rfl,_,m.hPtr,?_⟩
  rw[xT (n:=d / 8+i) (by omega)]
  refine HC.mono (nS m.cd z ⟨by omega,by omega⟩ g) ?_
  rintro _ D ⟨rfl,q,w⟩
  refine⟨_,rfl,p _ _ ⟨?_,?_,?_⟩⟩
  ·unfold hsetE;rw[qB c];rfl
  ·have l:nT (some (b,x)) d i v=some (b,x.setMem (x.sp.mem.store (d / 8+i) v).1):=by unfold nT;simp only;rw[qB f]
   rw[l]
   exact .real (m.withCd w (λj s=>by simp at s;omega) q) (z.store _ g)
  ·exact(k.fr (S:=own (some (b,x)))).trans (w.mono (λj s _=>by simp at s;simp[own];omega))
theorem rO(V:View H o r)(g:aD d)(a:aD i):
  fD.C o d i H (λu b=>u=vi (hsetE r d 0 i)/\View b o (nT r d 0 i)/\Fr (own r) H b):=by
 refine HC.via λR f=>fD.link ?_
 unfold fD.pt
 refine HC.mono (rg V g (by decide) a) ?_
 rintro _ h ⟨rfl,c,e⟩
 exact⟨_,rfl,f _ _ ⟨rfl,c,e⟩⟩
theorem nU(V:View H o r)(g:aD d)(a:aD i):
  eG.C o d i H (λu b=>u=vi (hsetE r d 1 i)/\View b o (nT r d 1 i)/\Fr (own r) H b):=by
 refine HC.via λR f=>eG.link ?_
 unfold eG.pt
 refine HC.mono (rg V g (by decide) a) ?_
 rintro _ h ⟨rfl,c,e⟩
 exact⟨_,rfl,f _ _ ⟨rfl,c,e⟩⟩
def Mem.sizeOf(m:Mem)(w:Int):Int:=if m.isPair w then 2 else if m.isObj w then m.len w+1 else 0
theorem kZ(V:View H o r)(g:aD d):
  bO.C o d H (λv h=>v=vi ((yP r).sizeOf d)/\Ext H h):=by
 refine HC.via λR e=>bO.link ?_
 unfold bO.pt zY
 refine HC.mono (nD V g) ?_
 rintro _ j ⟨rfl,c⟩
 refine⟨_,rfl,?_⟩
 by_cases b:(yP r).isPair d
 ·rw[qB (zX b)]
  exact e _ _ ⟨by unfold Mem.sizeOf;rw[qB b],c⟩
 rw[za (by simpa using b)]
 refine HC.mono (kv (V.ext c) g) ?_
 rintro _ k ⟨rfl,f⟩
 refine⟨_,_,_,_,_,rfl,?_⟩
 by_cases a:(yP r).isObj d
 ·rw[qB (zX a)]
  have l:=a.len_lt
  have i:(yP r).len d=hn ((yP r).get (d / 8)):=by unfold Mem.len;rw[qB a]
  refine e _ _ ⟨?_,c.trans f⟩
  rw[xT (by omega)];unfold Mem.sizeOf;rw[za b,qB a]
 ·rw[za (by simpa using a)]
  exact e _ _ ⟨by unfold Mem.sizeOf;rw[za b,za a],c.trans f⟩
theorem sQ{H0 H:zV}(a:H[k]?=some (.cells #[vu d,vu i] 28 (0,0))):dO H (some ⟨k,0,none⟩) (yE [d,i]):=
 eJ a _ 0 0 (λj b=>by
  have:j=0\/j=1:=by simp at b;omega
  rcases this with rfl | rfl<;>rfl)
theorem pV(V:View H o r)(s:aD d)(t:aD i)(n:sP r):
  fQ.C o d i H (λv e=>v=.tuple #[vu (zH r 0 1 [d,i]).1,vi (zH r 0 1 [d,i]).2]/\View e o (AB r 0 1 [d,i])/\Fr (own r) H e):=by
 refine HC.via λR l=>fQ.link ?_
 unfold fQ.pt
 intro b h m a
 have f:Ext H h:=CI a
 refine HC.mono (oE (ws:=[d,i]) (V.ext f) (sQ (H0:=H) (aF m a)) rfl (λw g=>by simp at g;rcases g with rfl | rfl<;>assumption) (λu p c=>by simp at p;have:=V.own_lt u c;omega) n (by decide) (by simp)) ?_
 rintro _ q ⟨rfl,j,k⟩
 exact⟨_,_,rfl,l _ _ ⟨rfl,j,f.fr.trans k⟩⟩
theorem pW(V:View H o r)(s:aD d)(t:aD i)(n:sP r):
  fR.C o d i H (λv e=>v=.tuple #[vu (zH r 1 2 [d,i]).1,vi (zH r 1 2 [d,i]).2]/\View e o (AB r 1 2 [d,i])/\Fr (own r) H e):=by
 refine HC.via λR l=>fR.link ?_
 unfold fR.pt
 intro b h m a
 have f:Ext H h:=CI a
 refine HC.mono (oE (ws:=[d,i]) (V.ext f) (sQ (H0:=H) (aF m a)) rfl (λw g=>by simp at g;rcases g with rfl | rfl<;>assumption) (λu p c=>by simp at p;have:=V.own_lt u c;omega) n (by decide) (by simp)) ?_
 rintro _ q ⟨rfl,j,k⟩
 exact⟨_,_,rfl,l _ _ ⟨rfl,j,f.fr.trans k⟩⟩
