/-
  A memory of segments, said of abstract segments: how it stands on the heap, and the contracts of package seg. Proves nothing of any one statement.
-/
import Derived.Test.YtillhdiiglamhaaGreatDoorFref02
import Derived.Test.YtillhdiiglamhaaGreatDoorWord
set_option linter.unusedVariables false
set_option linter.unusedSimpArgs false
namespace Go.Proofs.YtillhdiiglamhaaGreatDoor
open Go
theorem Gw:type_of% @List.countP_append:=@List.countP_append
theorem Gg:type_of% @Int.le_trans:=@Int.le_trans
theorem F2:type_of% @decide_eq_decide:=@decide_eq_decide
theorem FR:type_of% @List.mem_of_mem_take:=@List.mem_of_mem_take
theorem Fs:type_of% @List.range_succ:=@List.range_succ
theorem Fq:type_of% @List.take_length:=@List.take_length
theorem E6:type_of% @List.length_take:=@List.length_take
theorem ER:type_of% @List.mem_range:=@List.mem_range
theorem EN:type_of% @Int.le_refl:=@Int.le_refl
theorem EL:type_of% @List.take_succ_eq_append_getElem:=@List.take_succ_eq_append_getElem
variable{H u:zV}{a d k x:Int}{g q:Nat}{j:zW}{v:List Int}{y:List Nat}
abbrev BT(x:Int):Prop:= -9223372036854775808<=x/\x<=9223372036854775807
structure Seg where
  gen:Int
  kind:Int
  n:Int
  cards:Nat->Int
  taken:Int
  words:Nat->Int
def Seg.cell(s:Seg):Nat->Value
  | 0=> vi s.gen
  | 1=> vi s.kind
  | 2=> vi s.n
  | 3=> vi (s.cards 0)
  | 4=> vi (s.cards 1)
  | 5=> vi (s.cards 2)
  | 6=> vi (s.cards 3)
  | 7=> vi s.taken
  | j+8=> vu (s.words j)
def Seg.none:Seg:=⟨0,0,0,λ_=>0,0,λ_=>0⟩
def Seg.new(gen kind taken:Int):Seg:=⟨gen,kind,0,λ_=>5,taken,λ_=>0⟩
structure wy (s:Seg):Prop where
  gen:0<=s.gen/\s.gen<=4
  kind:0<=s.kind/\s.kind<=3
  n:0<=s.n/\s.n<=64
  cards: ∀c,0<=s.cards c/\s.cards c<=5
  taken:0<=s.taken
  words: ∀j,aO (s.words j)
structure Mem where
  limit:Nat
  seg:Nat->Seg
  count:Int
  free:Int
variable{b:Mem}
def Mem.upd(m:Mem)(k:Nat)(s:Seg):Mem:={m with seg:=λi=>if i=k then s else m.seg i}
@[simp] theorem Mem.upd_limit (m:Mem) (k:Nat) (s:Seg):(m.upd k s).limit=m.limit:=rfl
@[simp] theorem Mem.upd_count (m:Mem) (k:Nat) (s:Seg):(m.upd k s).count=m.count:=rfl
@[simp] theorem Mem.upd_free (m:Mem) (k:Nat) (s:Seg):(m.upd k s).free=m.free:=rfl
theorem Mem.upd_same(m:Mem)(k:Nat)(s:Seg):(m.upd k s).seg k=s:=by simp[Mem.upd]
theorem Fb:type_of% @Mem.upd_same:=@Mem.upd_same
theorem Mem.upd_other(m:Mem)(s:Seg)(h:g≠q):(m.upd q s).seg g=m.seg g:=by simp[Mem.upd,h]
theorem Fi:type_of% @Mem.upd_other:=@Mem.upd_other
theorem Mem.upd_seg(m:Mem)(i k:Nat)(s:Seg):(m.upd k s).seg i=if i=k then s else m.seg i:=rfl
theorem E0:type_of% @Mem.upd_seg:=@Mem.upd_seg
def Mem.nfree(m:Mem):Nat:=(List.range m.limit).countP (λk=>(m.seg k).taken==0)
structure bP (m:Mem):Prop where
  lim:8<=m.limit/\m.limit<=1024
  seg: ∀k,wy (m.seg k)
  free:m.free=m.nfree
  count:0<=m.count
theorem mh: ∀(n k:Nat) (p q:Nat->Bool),k<n->(∀i,i≠k->p i=q i)->p k=true->q k=false->(List.range n).countP p=(List.range n).countP q+1
  | 0,k,p,q,hk,_,_,_=>GF
  | n+1,k,p,q,hk,hpq,h1,h2=>by
    rw[Fs,Gw,Gw];by_cases a:k=n
    · subst a
      have e:(List.range k).countP p=(List.range k).countP q:=by
        refine List.countP_congr λi b=>?_;have:i<k:=ER.1 b;rw[hpq i GF]
      rw[e];simp[h1,h2]
    · rw[mh n k p q GF hpq h1 h2];simp[List.countP_cons,hpq n (λh=>a h.symm)];omega
theorem Mem.nfree_pos(h:b.nfree≠0): ∃k,k<b.limit/\(b.seg k).taken=0:=by
  have:0< (List.range b.limit).countP (λk=>(b.seg k).taken==0):=Nat.pos_of_ne_zero h;obtain⟨k,hk,a⟩:=List.countP_pos_iff.1 this;exact⟨k,ER.1 hk,by simpa using a⟩
theorem Mem.nfree_same{s:Seg}(h:s.taken=(b.seg g).taken):(b.upd g s).nfree=b.nfree:=by
  unfold Mem.nfree;refine List.countP_congr λi _=>?_;rw[E0];by_cases a:i=g
  · rw[ka a,h,a]
  · rw[kb a]
theorem Mem.nfree_take{m:Mem}{k:Nat}{s:Seg}(hk:k<m.limit)(a:(m.seg k).taken=0)(b:s.taken≠0):m.nfree=(m.upd k s).nfree+1:=by
  refine mh _ k _ _ hk (λi c=>by rw[Fi _ _ c]) (by simp[a]) ?_;show(((m.upd k s).seg k).taken==0)=false;rw[Fb];simpa using b
theorem Mem.nfree_give{m:Mem}{k:Nat}{s:Seg}(hk:k<m.limit)(a:(m.seg k).taken≠0)(b:s.taken=0):(m.upd k s).nfree=m.nfree+1:=by
  refine mh _ k _ _ hk (λi c=>by rw[Fi _ _ c]) ?_ (by simpa using a);show(((m.upd k s).seg k).taken==0)=true;rw[Fb];simp[b]
theorem bP.upd{m:Mem}(h:bP m){k:Nat}{s:Seg}(hs:wy s)(ht:s.taken=(m.seg k).taken):bP (m.upd k s):=
  ⟨h.lim, fun i => by rw [E0]; by_cases hi : i = k; · rw [ka hi]; exact hs
                      · rw[kb hi];exact h.seg i,by rw[Mem.nfree_same ht];exact h.free,h.count⟩
structure eG (H:zV) (bm bs:Nat) (m:Mem):Prop where
  mem: ∃cap:Nat,H[bm]?=some (.cells #[vs (some ⟨bs,0,none⟩) m.limit cap,vi m.count,vi m.free] 184 (0,0))
  ne:bm≠bs
  segs: ∃cs:Array Value,H[bs]?=some (.cells cs 188 (0,0))/\m.limit*72<=cs.size/\ ∀k,k<m.limit-> ∀j,j<72->cs[k*72+j]?=some ((m.seg k).cell j)
theorem eG.keep{S:List Nat}(h:eG H g q b)(f:Fr S H u)(c:g ∉ S)(d:q ∉ S):eG u g q b:=by
  obtain⟨a,e,i⟩:=h.segs;exact⟨⟨h.mem.choose,f.get c h.mem.choose_spec⟩,h.ne,a,f.get d e,i⟩
theorem eG.ext(h:eG H g q b)(f:Ext H u):eG u g q b:=h.keep (S:=[]) f.fr GH GH
theorem eG.lt{m:Mem}(h:eG H g q m):g<H.size/\q<H.size:=by
  obtain⟨b,a,_⟩:=h.segs;exact⟨aS h.mem.choose_spec,aS a⟩
theorem eG.at{H:zV}{m:Mem}(h:eG H g q m){k j:Nat}(hk:k<m.limit)(b:j<72):hat H ⟨q,k*72+j,none⟩=some ((m.seg k).cell j):=by
  obtain⟨d,a,_,c⟩:=h.segs;rw[aW a,c k hk j b]
theorem eG.segsAt(h:eG H g q b): ∃a:Nat,hat H ⟨g,0,none⟩=some (vs (some ⟨q,0,none⟩) b.limit a):=⟨h.mem.choose,by rw[aW h.mem.choose_spec];rfl⟩
theorem eG.countAt(h:eG H g q b):hat H ⟨g,1,none⟩=some (vi b.count):=by rw[aW h.mem.choose_spec];rfl
theorem eG.freeAt(h:eG H g q b):hat H ⟨g,2,none⟩=some (vi b.free):=by rw[aW h.mem.choose_spec];rfl
theorem eG.canPuts(h:eG H g q b){k o n:Nat}(hk:k<b.limit)(hn:o+n<=72):aF H ⟨q,k*72+o,none⟩ 0 n:=by
  obtain⟨c,a,d,_⟩:=h.segs;refine cZ a _ _ _ ?_;have:(k+1)*72<=b.limit*72:=FV _ hk;omega
theorem eG.puts(h:eG H g q b){k o:Nat}{vs:List Value}{s:Seg}(hk:k<b.limit)(hn:o+vs.length<=72)
    (v: ∀j,j<vs.length->vs[j]?=some (s.cell (o+j))) (r: ∀j,j<72->(j<o\/o+vs.length<=j)->s.cell j=(b.seg k).cell j):
    eG (aL H ⟨q,k*72+o,none⟩ vs 0) g q (b.upd k s)/\Fr [q] H (aL H ⟨q,k*72+o,none⟩ vs 0):=by
  obtain⟨u,t,x,p⟩:=h.segs;have w:(k+1)*72<=b.limit*72:=FV _ hk;rw[dX vs H u (k*72+o) 0 t,Nat.add_zero];refine⟨⟨⟨h.mem.choose,by rw[iz (λe=>h.ne e.symm)];exact h.mem.choose_spec⟩,h.ne,_,bL (aS t),by rw[Fo];exact x,λi c j d=>?_⟩,Ez⟩;rw[E0];have c:i<b.limit:=c;by_cases a:i=k
  · subst a;rw[ka rfl];by_cases l:j<o
    · rw[eN _ _ _ _ GF,p i c j d,r j d (.inl l)]
    by_cases m:o+vs.length<=j
    · rw[gt _ _ _ _ GF,p i c j d,r j d (.inr m)]
    · rw[show i*72+j=i*72+o+(j-o)by omega,fE _ _ _ _ GF GF,v (j-o) GF,show o+(j-o)=j by omega]
  · rw[kb a,<-p i c j d];rcases Nat.lt_or_gt_of_ne a with n | f
    · have:(i+1)*72<=k*72:=FV _ n;exact eN _ _ _ _ GF
    · have:(k+1)*72<=i*72:=FV _ f;exact gt _ _ _ _ GF
theorem eG.put(h:eG H g q b){k o:Nat}{v:Value}{s:Seg}(hk:k<b.limit)(hn:o<72)
    (c:s.cell o=v) (d: ∀j,j<72->j≠o->s.cell j=(b.seg k).cell j):
    eG (aL H ⟨q,k*72+o,none⟩ [v] 0) g q (b.upd k s)/\Fr [q] H (aL H ⟨q,k*72+o,none⟩ [v] 0):=by
  refine h.puts hk (by simp;omega) (λj a=>?_) (λj a e=>d j a (by simp at e;omega));simp only[List.length_singleton]at a;obtain rfl:j=0:=GF;rw[Nat.add_zero,c];rfl
def Mem.has(m:Mem)(k:Int):Prop:=0<=k/\k<m.limit/\(m.seg k.toNat).taken≠0
instance (m:Mem) (k:Int):Decidable (m.has k):=by unfold Mem.has;infer_instance
theorem mQ(h:eG H g q b):
    gh.C (some ⟨g,0,none⟩) a H (λv j=>v=vp (if b.has a then some ⟨q,a.toNat*72,none⟩else none)/\j=H):=by
  refine Ei λR d=>gh.link ?_;unfold gh.pt;rw[El];by_cases f:a<0
  · rw[ka f];exact d _ _ ⟨by rw[kb (λc=>by have:=c.1;omega)],rfl⟩
  rw[kb f];refine⟨_,_,_,h.segsAt.choose_spec,?_⟩;by_cases i:a>=(b.limit:Int)
  · rw[ka i];exact d _ _ ⟨by rw[kb (λc=>by have:=c.2.1;omega)],rfl⟩
  rw[kb i];have hk:a.toNat<b.limit:=GF;refine⟨_,_,_,h.segsAt.choose_spec,_,rfl,⟨GF,GF⟩,(b.seg a.toNat).taken,?_,?_⟩
  · simp only[Ej,Eo];exact h.at hk GF
  by_cases e:(b.seg a.toNat).taken=0
  · rw[ka e];exact d _ _ ⟨by rw[kb (λc=>c.2.2 e)],rfl⟩
  · rw[kb e];refine⟨_,_,_,h.segsAt.choose_spec,_,rfl,⟨GF,GF⟩,d _ _ ⟨?_,rfl⟩⟩;rw[ka ⟨GF,GF,e⟩,Ej,Eo]
def Seg.head(s:Seg):Value:=.agg #[vi s.gen,vi s.kind,vi s.n,vi (s.cards 0),vi (s.cards 1),vi (s.cards 2),vi (s.cards 3)]
theorem lV(h:eG H g q b):
    bX.C (some ⟨g,0,none⟩) a H (λv u=>v=.tuple #[(if b.has a then b.seg a.toNat else Seg.none).head,.bool (decide (b.has a))]/\Ext H u):=by
  refine Ei λR t=>bX.link ?_;unfold bX.pt;intro z H1 w d;have f:Ext H H1:=Eh d;have s:=aK w d;refine gc (mQ (h.ext f)) ?_;rintro _ i ⟨rfl,rfl⟩;refine⟨_,rfl,?_⟩;by_cases hk:b.has a
  · rw[ka hk,El];have o:a.toNat<b.limit:=by have:=hk.1;have:=hk.2.1;omega
    have e:aI i ⟨q,a.toNat*72,none⟩ 0 [vi (b.seg a.toNat).gen,vi (b.seg a.toNat).kind,vi (b.seg a.toNat).n,vi ((b.seg a.toNat).cards 0),vi ((b.seg a.toNat).cards 1),vi ((b.seg a.toNat).cards 2),vi ((b.seg a.toNat).cards 3)]:=by
      have y:=λj (x:j<72)=>(h.ext f).at (j:=j) o x;simp only[aI,Ej];exact⟨y 0 GF,y 1 GF,y 2 GF,y 3 GF,y 4 GF,y 5 GF,y 6 GF,GB⟩
    refine⟨_,_,_,_,_,_,_,e,?_⟩;obtain⟨m,r⟩:=E7 (vs:=[vi (b.seg a.toNat).gen,vi (b.seg a.toNat).kind,vi (b.seg a.toNat).n,vi ((b.seg a.toNat).cards 0),vi ((b.seg a.toNat).cards 1),vi ((b.seg a.toNat).cards 2),vi ((b.seg a.toNat).cards 3)]) (H1:=i) s rfl rfl;refine⟨m,λk c=>?_⟩;obtain⟨p,l⟩:=r k c;refine⟨_,_,_,_,_,_,_,p,t _ _ ⟨?_,l H f GF⟩⟩;rw[ka hk,zX hk];rfl
  · rw[kb hk,Ev];obtain⟨m,r⟩:=E7 (vs:=[vi 0,vi 0,vi 0,vi 0,vi 0,vi 0,vi 0]) (H1:=i) s rfl rfl;refine⟨m,λk c=>?_⟩;obtain⟨p,l⟩:=r k c;refine⟨_,_,_,_,_,_,_,p,t _ _ ⟨?_,l H f GF⟩⟩;rw[kb hk,zQ hk];rfl
def Mem.used(m:Mem)(a:Int):Prop:=0<=a/\m.has (a / 64)/\a % 64< (m.seg (a / 64).toNat).n
instance (m:Mem) (a:Int):Decidable (m.used a):=by unfold Mem.used;infer_instance
def Mem.get(m:Mem)(a:Int):Int:=(m.seg (a / 64).toNat).words (a % 64).toNat
def Seg.set(s:Seg)(i:Nat)(w:Int):Seg:={s with words:=λj=>if j=i then w else s.words j}
def Mem.set(m:Mem)(a w:Int):Mem:=m.upd (a / 64).toNat ((m.seg (a / 64).toNat).set (a % 64).toNat w)
theorem qi(h:eG H g q b)(l:bP b)(k:a<=9223372036854775807):
    gI.C (some ⟨g,0,none⟩) a H (λv i=>v=vp (if b.used a then some ⟨q,(a / 64).toNat*72+(8+(a % 64).toNat),none⟩else none)/\i=H):=by
  refine Ei λR d=>gI.link ?_;unfold gI.pt zY;by_cases f:a<0
  · rw[ka f];exact d _ _ ⟨by rw[kb (λc=>by have:=c.1;omega)],rfl⟩
  rw[kb f,lT GF,n5 (n:=a / 64) GF,lU GF];refine gc (mQ h) ?_;rintro _ j ⟨rfl,rfl⟩;refine⟨_,rfl,?_⟩;by_cases hk:b.has (a / 64)
  · rw[ka hk,El];have e:(a / 64).toNat<b.limit:=by have:=hk.1;have:=hk.2.1;omega
    refine⟨(b.seg (a / 64).toNat).n,by rw[Ej];exact h.at e GF,?_⟩;by_cases hn:a % 64>=(b.seg (a / 64).toNat).n
    · rw[ka hn];exact d _ _ ⟨by rw[kb (λc=>by have:=c.2.2;omega)],rfl⟩
    · rw[kb hn];refine⟨⟨GF,GF⟩,d _ _ ⟨?_,rfl⟩⟩;rw[ka ⟨GF,hk,GF⟩];simp only[Ej,EG];rw[Nat.add_assoc]
  · rw[kb hk,Ev];exact d _ _ ⟨by rw[kb (λc=>hk c.2.1)],rfl⟩
theorem je(h:eG H g q b)(j:bP b)(i:a<=9223372036854775807):
    cS.C (some ⟨g,0,none⟩) a H (λv f=>v=(if b.used a then .tuple #[vu (b.get a),vi 0]else .tuple #[vu 0,vi 18])/\f=H):=by
  refine Ei λR e=>cS.link ?_;unfold cS.pt;refine gc (qi h j i) ?_;rintro _ k ⟨rfl,rfl⟩;refine⟨_,rfl,?_⟩;by_cases c:b.used a
  · rw[ka c,El];have d:(a / 64).toNat<b.limit:=by have:=c.2.1.1;have:=c.2.1.2.1;omega
    refine⟨b.get a,?_,e _ _ ⟨by rw[ka c],rfl⟩⟩;rw[h.at d GF,show 8+(a % 64).toNat=(a % 64).toNat+8 by omega];rfl
  · rw[kb c,Ev];exact e _ _ ⟨by rw[kb c],rfl⟩
theorem Seg.set_cell(s:Seg)(i:Nat)(w:Int):(s.set i w).cell (8+i)=vu w:=by
  rw[show 8+i=i+8 by omega];simp[Seg.cell,Seg.set]
theorem Seg.set_cell_other(s:Seg)(i:Nat)(w:Int): ∀j,j≠8+i->(s.set i w).cell j=s.cell j
  | 0,_ | 1,_ | 2,_ | 3,_ | 4,_ | 5,_ | 6,_ | 7,_=>rfl
  | j+8,h=>by simp[Seg.cell,Seg.set];intro e;omega
theorem kg{m:Mem}(h:eG H g q m)(r:bP m)(n:a<=9223372036854775807):
    dS.C (some ⟨g,0,none⟩) a d H (λv f=>v=vi (if m.used a then 0 else 18)/\eG f g q (if m.used a then m.set a d else m)/\Fr [q] H f):=by
  refine Ei λR i=>dS.link ?_;unfold dS.pt;refine gc (qi h r n) ?_;rintro _ t ⟨rfl,rfl⟩;refine⟨_,rfl,?_⟩;by_cases b:m.used a
  · rw[ka b,El];have c:(a / 64).toNat<m.limit:=by have:=b.2.1.1;have:=b.2.1.2.1;omega
    refine⟨h.canPuts c GF,λu e=>?_⟩;subst e;obtain⟨k,l⟩:=h.put (v:=vu d) (s:=(m.seg (a / 64).toNat).set (a % 64).toNat d) c (o:=8+(a % 64).toNat) GF (Seg.set_cell _ _ _) (λj _ p=>Seg.set_cell_other _ _ _ j p);exact i _ _ ⟨by rw[ka b],by rw[ka b];exact k,l⟩
  · rw[kb b,Ev];exact i _ _ ⟨by rw[kb b],by rw[kb b];exact h,Ey _ _⟩
def Seg.bump(s:Seg)(d:Int):Seg:={s with n:=s.n+d}
def Mem.bump(m:Mem)(k d:Int):Mem×Int×Int:=
  if ¬m.has k then(m,0,19)
  else if d<1 then(m,0,1)
  else if 64-(m.seg k.toNat).n<d then(m,0,2)
  else(m.upd k.toNat ((m.seg k.toNat).bump d),k*64+(m.seg k.toNat).n,0)
theorem qj(h:eG H g q b)(u:bP b):
    gH.C (some ⟨g,0,none⟩) a d H (λv m=>v=.tuple #[vi (b.bump a d).2.1,vi (b.bump a d).2.2]/\eG m g q (b.bump a d).1/\Fr [q] H m):=by
  refine Ei λR f=>gH.link ?_;unfold gH.pt zY;refine gc (mQ h) ?_;rintro _ w ⟨rfl,rfl⟩;refine⟨_,rfl,?_⟩;by_cases hk:b.has a
  · rw[ka hk,El];have c:a.toNat<b.limit:=by have:=hk.1;have:=hk.2.1;omega
    have t:=u.lim;have A:=(u.seg a.toNat).n;have D:=hk.1;by_cases k:d<1
    · rw[ka k];have e:b.bump a d=(b,0,1):=by unfold Mem.bump;rw[kb (λl=>l hk),ka k]
      rw[e]at f;exact f _ _ ⟨rfl,h,Ey _ _⟩
    rw[kb k];have hn:hat w (Addr.add ⟨q,a.toNat*72,none⟩ 2)=some (vi (b.seg a.toNat).n):=by rw[Ej];exact h.at c GF
    refine⟨_,hn,?_⟩;rw[n5 (n:=64-(b.seg a.toNat).n) GF];by_cases r:d>64-(b.seg a.toNat).n
    · rw[ka r];have e:b.bump a d=(b,0,2):=by unfold Mem.bump;rw[kb (λl=>l hk),kb k,ka GF]
      rw[e]at f;exact f _ _ ⟨rfl,h,Ey _ _⟩
    rw[kb r];have e:b.bump a d=(b.upd a.toNat ((b.seg a.toNat).bump d),a*64+(b.seg a.toNat).n,0):=by unfold Mem.bump;rw[kb (λl=>l hk),kb k,kb GF]
    rw[e]at f;refine⟨_,hn,by rw[Ej];exact h.canPuts c GF,λB i=>?_⟩;rw[Ej,n5 (n:=(b.seg a.toNat).n+d) GF]at i;subst i
    obtain⟨p,x⟩:=h.put (v:=vi ((b.seg a.toNat).n+d)) (s:=(b.seg a.toNat).bump d) c (o:=2) GF rfl (λj _ y=>by
      match j,y with
      | 0,_ | 1,_ | 3,_ | 4,_ | 5,_ | 6,_ | 7,_=>rfl
      | 2,h=>exact absurd rfl h
      | j+8,_=>rfl)
    refine⟨(b.seg a.toNat).n+d,?_,f _ _ ⟨?_,p,x⟩⟩
    · rw[Ej,p.at c GF,Fb];rfl
    · have z:a<1024:=by have:=hk.2.1;omega
      rw[n5 (n:=a*64) GF,n5 (n:=a*64+((b.seg a.toNat).n+d)) GF,n5 GF];rw[show a*64+((b.seg a.toNat).n+d)-d=a*64+(b.seg a.toNat).n by omega]
  · rw[kb hk,Ev];have e:b.bump a d=(b,0,19):=by unfold Mem.bump;rw[ka hk]
    rw[e]at f;exact f _ _ ⟨rfl,h,Ey _ _⟩
def Seg.mark(s:Seg)(c:Nat)(v:Int):Seg:={s with cards:=λi=>if i=c then v else s.cards i}
def Mem.mark(m:Mem)(k c v:Int):Mem×Int:=
  if ¬m.has k then(m,19)
  else if c<0\/4<=c\/v<0\/5<v then(m,1)
  else(m.upd k.toNat ((m.seg k.toNat).mark c.toNat v),0)
theorem vc(h:eG H g q b):
    ia.C (some ⟨g,0,none⟩) a d k H (λv m=>v=vi (b.mark a d k).2/\eG m g q (b.mark a d k).1/\Fr [q] H m):=by
  refine Ei λR c=>ia.link ?_;unfold ia.pt;refine gc (mQ h) ?_;rintro _ u ⟨rfl,rfl⟩;refine⟨_,rfl,?_⟩;by_cases hk:b.has a
  · rw[ka hk,El];have i:a.toNat<b.limit:=by have:=hk.1;have:=hk.2.1;omega
    by_cases n:d<0\/4<=d\/k<0\/5<k
    · rw[ka (by simp;omega)];have e:b.mark a d k=(b,1):=by unfold Mem.mark;rw[kb (λl=>l hk),ka n]
      rw[e]at c;exact c _ _ ⟨rfl,h,Ey _ _⟩
    · rw[kb (by simp;omega)];have e:b.mark a d k=(b.upd a.toNat ((b.seg a.toNat).mark d.toNat k),0):=by unfold Mem.mark;rw[kb (λl=>l hk),kb n]
      rw[e]at c;simp only[Ej,EG];refine⟨⟨GF,GF⟩,by rw[Nat.add_assoc];exact h.canPuts i GF,λw f=>?_⟩;rw[Nat.add_assoc]at f;subst f
      obtain⟨p,r⟩:=h.put (v:=vi k) (s:=(b.seg a.toNat).mark d.toNat k) i (o:=3+d.toNat) GF (by
          have:d.toNat=0\/d.toNat=1\/d.toNat=2\/d.toNat=3:=GF;rcases this with e | e | e | e<;>rw[e]<;>rfl) (λj _ t=>by
        match j,t with
        | 0,_ | 1,_ | 2,_ | 7,_=>rfl
        | 3,h | 4,h | 5,h | 6,h=>simp only[Seg.cell,Seg.mark];rw[kb GF]
        | j+8,_=>rfl)
      exact c _ _ ⟨rfl,p,r⟩
  · rw[kb hk,Ev];have e:b.mark a d k=(b,19):=by unfold Mem.mark;rw[ka hk]
    rw[e]at c;exact c _ _ ⟨rfl,h,Ey _ _⟩
def Mem.first(m:Mem):Nat:=((List.range m.limit).find? (λk=>(m.seg k).taken==0)).getD 0
theorem Mem.first_eq(hk:g<b.limit)(a:(b.seg g).taken=0)(c: ∀j,j<g->(b.seg j).taken≠0):b.first=g:=by
  unfold Mem.first
  have:(List.range b.limit).find? (λg=>(b.seg g).taken==0)=some g:=by
    rw[List.find?_range_eq_some];refine⟨by simp[a],by simp[hk],λj d=>by simpa using c j d⟩
  rw[this];rfl
def Mem.take(m:Mem)(gen kind:Int):Mem×Int×Int:=
  if gen<0\/4<gen\/kind<0\/3<kind then(m,0,1)
  else if m.free=0 then(m,0,2)
  else({m with count:=m.count+1,free:=m.free-1}.upd m.first (Seg.new gen kind (m.count+1)),m.first,0)
theorem yl(b a t:Int): ∃vs:List Value,vs=([vi b,vi a,vi 0,vi 5,vi 5,vi 5,vi 5,vi t]++List.replicate 64 (vu 0):List Value)/\vs.length=72/\ ∀j,j<72->vs[j]?=some ((Seg.new b a t).cell j):=by
  refine⟨_,rfl,GH,λj c=>?_⟩
  match j,c with
  | 0,_ | 1,_ | 2,_ | 3,_ | 4,_ | 5,_ | 6,_ | 7,_=>rfl
  | j+8,c=>
    rw[List.getElem?_append_right GH];simp only[List.length_cons,List.length_nil];rw[List.getElem?_replicate,ka GF];rfl
theorem rX: ∃z:Array Value,z=(List.replicate 8 (vi 0)++List.replicate 64 (vu 0):List Value).toArray/\z.size=72/\ ∀j,j<72->z[j]?=some (Seg.none.cell j):=by
  refine⟨_,rfl,GH,λj a=>?_⟩;rw[List.getElem?_toArray]
  match j,a with
  | 0,_ | 1,_ | 2,_ | 3,_ | 4,_ | 5,_ | 6,_ | 7,_=>rfl
  | j+8,a=>
    rw[List.getElem?_append_right GH];simp only[List.length_replicate];rw[List.getElem?_replicate,ka GF];rfl
theorem vd(h:eG H g q b)(u:bP b)(hc:b.count<4611686018427387904):
    ib.C (some ⟨g,0,none⟩) a d H (λv D=>v=.tuple #[vi (b.take a d).2.1,vi (b.take a d).2.2]/\eG D g q (b.take a d).1/\Fr [g,q] H D):=by
  refine Ei λR t=>ib.link ?_;unfold ib.pt zY;rw[El];have X:=u.lim
  have c:(a<0\/4<a\/d<0\/3<d)->R (.tuple #[vi 0,vi 1]) H:=λN=>by
    have e:b.take a d=(b,0,1):=by unfold Mem.take;rw[ka N]
    rw[e]at t;exact t _ _ ⟨rfl,h,Ey _ _⟩
  by_cases J:a<0
  · rw[ka J];exact c (.inl J)
  rw[kb J];by_cases K:a>4
  · rw[ka K];exact c (.inr (.inl K))
  rw[kb K];by_cases L:d<0
  · rw[ka L];exact c (.inr (.inr (.inl L)))
  rw[kb L];by_cases M:d>3
  · rw[ka M];exact c (.inr (.inr (.inr M)))
  rw[kb M];refine⟨_,_,_,h.segsAt.choose_spec,?_⟩;rw[kb GF];refine⟨b.free,by rw[Ej];exact h.freeAt,?_⟩;by_cases w:b.free=0
  · rw[ka w];have e:b.take a d=(b,0,2):=by unfold Mem.take;rw[kb GF,ka w]
    rw[e]at t;exact t _ _ ⟨rfl,h,Ey _ _⟩
  rw[kb w];have S:b.nfree≠0:=λe=>w (by rw[u.free,e];rfl);have Q:=Mem.nfree_pos S
  have O:b.free<=1024:=by
    rw[u.free];have:b.nfree<=(List.range b.limit).length:=List.countP_le_length;simp at this;omega
  have F:0<=b.free:=by rw[u.free];omega
  refine⟨λk D=>D=H/\0<=k/\ ∀j:Nat,j<k.toNat->(b.seg j).taken≠0,λk _=>(1024-k).toNat,⟨rfl,GF,λj r=>by simp at r⟩,?_⟩;rintro k H1 ⟨rfl,Y,r⟩;obtain⟨Z,a6,P⟩:=Q
  have l:k.toNat<b.limit:=by
    rcases EC Z k.toNat with h | h
    · exact absurd P (r Z h)
    · omega
  refine⟨_,_,_,h.segsAt.choose_spec,_,rfl,⟨Y,GF⟩,(b.seg k.toNat).taken,by simp only[Ej,Eo];exact h.at l GF,?_⟩;have ht:=(u.seg k.toNat).taken;by_cases A:(b.seg k.toNat).taken>0
  · rw[ka A,n5 (n:=k+1) GF];refine⟨⟨rfl,GF,λj a5=>?_⟩,by show(1024-(k+1)).toNat< (1024-k).toNat;omega⟩;by_cases e:j=k.toNat
    · subst e;omega
    · exact r j GF
  rw[kb A];have B:(b.seg k.toNat).taken=0:=GF;have f:b.first=k.toNat:=Mem.first_eq l B r;have W:=u.count;refine⟨b.count,by rw[Ej];exact h.countAt,by rw[Ej];exact cZ h.mem.choose_spec _ _ _ GH,λH2 m=>?_⟩;rw[Ej,dX _ _ _ _ _ h.mem.choose_spec,n5 (n:=b.count+1) GF]at m;have I:H2[g]?=some (.cells #[.slice (some ⟨q,0,none⟩) b.limit h.mem.choose,vi (b.count+1),vi b.free] 184 (0,0)):=by rw[m,bL h.lt.1];rfl
  refine⟨b.free,by rw[Ej,aW I];rfl,by rw[Ej];exact cZ I _ _ _ GH,λT p=>?_⟩;rw[Ej,dX _ _ _ _ _ I,n5 (n:=b.free-1) GF,m,nW]at p
  have E:eG T g q {b with count:=b.count+1,free:=b.free-1}:=by
    subst p;obtain⟨cs,N,hr⟩:=h.segs;exact⟨⟨h.mem.choose,by rw[bL h.lt.1];rfl⟩,h.ne,cs,by rw[iz h.ne];exact N,hr⟩
  have f3:Fr [g] H1 T:=by subst p;exact Ez
  refine⟨_,_,_,E.segsAt.choose_spec,b.count+1,by rw[Ej];exact E.countAt,_,rfl,⟨Y,by show k< (b.limit:Int);omega⟩,?_⟩;simp only[Ej,Eo];have y:=E.canPuts (k:=k.toNat) (o:=0) (n:=72) l GF;rw[Nat.add_zero]at y;refine⟨y,λH4 x=>?_⟩;obtain⟨vs,G,hl,hg⟩:=yl a d (b.count+1);rw[<-G]at x;obtain⟨V,U⟩:=E.puts (k:=k.toNat) (o:=0) (vs:=vs) (s:=Seg.new a d (b.count+1)) l GF (λj r=>by rw[Eo];exact hg j GF) (λj r ho=>GF);rw[Nat.add_zero]at V U
  have e:b.take a d=({b with count:=b.count+1,free:=b.free-1}.upd k.toNat (Seg.new a d (b.count+1)),k,0):=by
    unfold Mem.take;rw[kb GF,kb w,f,show((k.toNat:Nat):Int)=k by omega]
  rw[e]at t;subst x;exact t _ _ ⟨rfl,V,(f3.trans' U (λi z _=>by simp at z;simp[z]) (λi z _=>by simp at z;simp[z]))⟩
def Mem.fresh(limit:Nat):Mem:=⟨limit,λ_=>Seg.none,0,limit⟩
theorem nI:wy Seg.none:=⟨GG,GG,GG,λ_=>(by decide:(0:Int)<=0/\(0:Int)<=5),GG,λ_=>(by decide:aO 0)⟩
theorem t8(h:8<=g/\g<=1024):bP (Mem.fresh g):=
  ⟨h,λ_=>nI,by
    show(g:Int)=_;unfold Mem.nfree;have:(List.range g).countP (λk=>((Mem.fresh g).seg k).taken==0)=(List.range g).length:=List.countP_eq_length.2 (λ_ _=>rfl);show(g:Int)=(((List.range g).countP (λk=>((Mem.fresh g).seg k).taken==0):Nat):Int);rw[this];simp,EN _⟩
theorem wT(A:BT a):
    k9.C a H (λv e=>(¬(8<=a/\a<=1024)/\v=.tuple #[vp none,vi 1]/\e=H)\/
      ((8<=a/\a<=1024)/\ ∃f g,v=.tuple #[vp (some ⟨f,0,none⟩),vi 0]/\eG e f g (Mem.fresh a.toNat)/\Ext H e/\H.size<=g/\g<f)):=by
  refine Ei λR p=>k9.link ?_;unfold k9.pt;by_cases h:8<=a/\a<=1024
  · rw[kb (by simp;omega)];obtain⟨z,s,r,u⟩:=rX;rw[<-s];refine⟨GF,GF,GF,GF,λb x q c m y i d=>p _ _ (.inr ⟨h,m,b,rfl,?_,(Eh c).trans (Eh d),GF,?_⟩)⟩
    · have o:=aK q c;have t:=aK i d;have l:m≠b:=by have:=aS o;omega
      refine⟨⟨a.toNat,?_⟩,l,_,(Eh d).get o,?_,?_⟩
      · rw[t];show _=some (Obj.cells #[vs (some ⟨b,0,none⟩) a.toNat a.toNat,vi 0,vi ((a.toNat:Nat):Int)] _ _);rw[show((a.toNat:Nat):Int)=a by omega]
      · rw[lu,r];exact Er _
      · intro k hk j w;have:=np (z:=z) (n:=a.toNat) (k:=k) (j:=j) hk GF;rw[r]at this;rw[this,u j w];rfl
    · have:=aS (aK q c);omega
  · rw[ka (by simp;omega)];exact p _ _ (.inl ⟨h,rfl,rfl⟩)
theorem bP.bump(a:bP b)(k d:Int):bP (b.bump k d).1:=by
 unfold Mem.bump;by_cases hk:b.has k
 ·rw[kb (λh=>h hk)];by_cases c:d<1
  ·rw[ka c];exact a
  rw[kb c];by_cases e:64-(b.seg k.toNat).n<d
  ·rw[ka e];exact a
  rw[kb e];have s:=a.seg k.toNat;exact a.upd ⟨s.gen,s.kind,by have:=s.n;show 0<=(b.seg k.toNat).n+d/\(b.seg k.toNat).n+d<=64;omega,s.cards,s.taken,s.words⟩ rfl
 ·rw[ka hk];exact a
theorem Mem.bump_lim(m:Mem)(k d:Int):(m.bump k d).1.limit=m.limit/\(m.bump k d).1.count=m.count/\(m.bump k d).1.free=m.free:=by
 unfold Mem.bump;split
 ·exact⟨rfl,rfl,rfl⟩
 split
 ·exact⟨rfl,rfl,rfl⟩
 split<;>exact⟨rfl,rfl,rfl⟩
theorem FX:type_of% @Mem.bump_lim:=@Mem.bump_lim
theorem Mem.bump_fail(h:(b.bump a d).2.2≠0):(b.bump a d).1=b:=by
 unfold Mem.bump at*;split
 ·rfl
 ·rename_i c
  rw[kb c]at h;split
  ·rfl
  ·rename_i e
   rw[kb e]at h;split
   ·rfl
   ·rename_i f
    rw[kb f]at h;exact absurd rfl h
theorem Mem.first_spec(i:bP b)(h:b.free≠0):b.first<b.limit/\(b.seg b.first).taken=0:=by
 have c:b.nfree≠0:=λe=>h (by rw[i.free,e];rfl);obtain⟨k,hk,d⟩:=Mem.nfree_pos c
 have g:((List.range b.limit).find? (λk=>(b.seg k).taken==0)).isSome=true:=by
  rw[List.find?_isSome];exact⟨k,ER.2 hk,by simp[d]⟩
 obtain⟨j,a⟩:=FQ.1 g;have f:=List.find?_some a;have hm:=List.mem_of_find?_eq_some a;unfold Mem.first;rw[a];exact⟨ER.1 hm,by simpa using f⟩
theorem FY:type_of% @Mem.first_spec:=@Mem.first_spec
theorem bP.take{m:Mem}(c:bP m)(b a:Int):bP (m.take b a).1:=by
 unfold Mem.take;by_cases f:b<0\/4<b\/a<0\/3<a
 ·rw[ka f];exact c
 rw[kb f];by_cases d:m.free=0
 ·rw[ka d];exact c
 rw[kb d];obtain⟨l,j⟩:=FY c d;have n:=c.count;refine⟨c.lim,λi=>?_,?_,by show 0<=m.count+1;omega⟩
 ·rw[E0];by_cases g:i=m.first
  ·rw[ka g];exact⟨by show 0<=b/\b<=4;omega,by show 0<=a/\a<=3;omega,(by decide:(0:Int)<=0/\(0:Int)<=64),λ_=>(by decide:(0:Int)<=5/\(5:Int)<=5),by show 0<=m.count+1;omega,λ_=>(by decide:aO 0)⟩
  ·rw[kb g];exact c.seg i
 ·show m.free-1=_;have e:=Mem.nfree_take (m:=m) (k:=m.first) (s:=Seg.new b a (m.count+1)) l j (by show m.count+1≠0;omega);have h:({m with count:=m.count+1,free:=m.free-1}.upd m.first (Seg.new b a (m.count+1))).nfree=(m.upd m.first (Seg.new b a (m.count+1))).nfree:=rfl;rw[h,c.free,e];omega
theorem bP.set{m:Mem}(b:bP m)(a:Int){w:Int}(c:aO w):bP (m.set a w):=by
 have s:=b.seg (a / 64).toNat;refine b.upd ⟨s.gen,s.kind,s.n,s.cards,s.taken,λj=>?_⟩ rfl;simp only[Seg.set];by_cases h:j=(a % 64).toNat
 ·rw[ka h];exact c
 ·rw[kb h];exact s.words j
theorem bP.mark{m:Mem}(a:bP m)(k c v:Int):bP (m.mark k c v).1:=by
 unfold Mem.mark;by_cases hk:m.has k
 ·rw[kb (λh=>h hk)];by_cases b:c<0\/4<=c\/v<0\/5<v
  ·rw[ka b];exact a
  rw[kb b];have s:=a.seg k.toNat;refine a.upd ⟨s.gen,s.kind,s.n,λi=>?_,s.taken,s.words⟩ rfl;simp only[Seg.mark];by_cases h:i=c.toNat
  ·rw[ka h];omega
  ·rw[kb h];exact s.cards i
 ·rw[ka hk];exact a
structure Sp where
 mem:Mem
 cur:Nat->Nat->Int
variable{i:Sp}
structure Blk where
 h:Nat
 c:Nat
 sp:Nat
 m:Nat
 s:Nat
variable{r:Blk}
def Blk.all(b:Blk):List Nat:=[b.h,b.c,b.sp,b.m,b.s]
structure SpOK (s:Sp):Prop where
 mem:bP s.mem
 cur: ∀g k,s.cur g k=0\/(1<=s.cur g k/\s.mem.has (s.cur g k-1)/\(s.mem.seg (s.cur g k-1).toNat).gen=g/\(s.mem.seg (s.cur g k-1).toNat).kind=k)
structure SpAt (H:zV) (b:Blk) (s:Sp):Prop where
 mem:eG H b.m b.s s.mem
 ne:b.sp≠b.m/\b.sp≠b.s
 sp: ∃cs:Array Value,H[b.sp]?=some (.cells cs 119 (0,0))/\cs.size=21/\cs[0]?=some (vp (some ⟨b.m,0,none⟩))/\ ∀g k,g<5->k<4->cs[1+g*4+k]?=some (vi (s.cur g k))
theorem SpAt.keep{S:List Nat}(h:SpAt H r i)(f:Fr S H u)(b:r.sp ∉ S)(c:r.m ∉ S)(d:r.s ∉ S):SpAt u r i:=by
 obtain⟨a,e,g⟩:=h.sp;exact⟨h.mem.keep f c d,h.ne,a,f.get b e,g⟩
theorem SpAt.ext{b:Blk}{s:Sp}(h:SpAt H b s)(f:Ext H u):SpAt u b s:=h.keep (S:=[]) f.fr GH GH GH
theorem SpAt.withMem{S:List Nat}{m:Mem}(h:SpAt H r i)(f:Fr S H u)(b:r.sp ∉ S)(hm:eG u r.m r.s m):SpAt u r {i with mem:=m}:=by
 obtain⟨a,c,d⟩:=h.sp;exact⟨hm,h.ne,a,f.get b c,d⟩
theorem SpAt.memPtr{s:Sp}(h:SpAt H r s):hat H ⟨r.sp,0,none⟩=some (vp (some ⟨r.m,0,none⟩)):=by
 obtain⟨c,b,_,a,_⟩:=h.sp;rw[aW b,a]
theorem SpAt.curAt(h:SpAt H r i){g k:Nat}(c:g<5)(hk:k<4):hat H ⟨r.sp,1+g*4+k,none⟩=some (vi (i.cur g k)):=by
 obtain⟨d,a,_,_,b⟩:=h.sp;rw[aW a,b g k c hk]
def Sp.setCur(s:Sp)(g k:Nat)(v:Int):Sp:={s with cur:=λi j=>if i=g/\j=k then v else s.cur i j}
theorem SpAt.putCur(h:SpAt H r i){g k:Nat}{v:Int}(o:g<5)(hk:k<4):
  aF H ⟨r.sp,1+g*4+k,none⟩ 0 1/\SpAt (aL H ⟨r.sp,1+g*4+k,none⟩ [vi v] 0) r (i.setCur g k v)/\Fr [r.sp] H (aL H ⟨r.sp,1+g*4+k,none⟩ [vi v] 0):=by
 obtain⟨b,a,n,c,d⟩:=h.sp;refine⟨cZ a _ _ _ GF,?_⟩;rw[dX _ H b _ 0 a];refine⟨⟨h.mem.keep (S:=[r.sp]) Ez (by have:=h.ne;simp;omega) (by have:=h.ne;simp;omega),h.ne,_,bL (aS a),by rw[Fo];exact n,?_,λp j f l=>?_⟩,Ez⟩
 ·rw[eN _ _ _ _ GF];exact c
 ·simp only[Sp.setCur];by_cases e:p=g/\j=k
  ·rw[ka e,e.1,e.2];have:=fE b [vi v] (1+g*4+k+0) 0 (by simp;omega) GH;simpa using this
  ·rw[kb e,<-d p j f l];rcases EC (1+p*4+j) (1+g*4+k)with m | m
   ·exact eN _ _ _ _ GF
   ·exact gt _ _ _ _ (by simp;omega)
theorem oe(h:SpAt H r i):eQ.C (some ⟨r.sp,0,none⟩) H (λv a=>v=VF/\a=H):=by
 refine Ei λR b=>eQ.link ?_;unfold eQ.pt;rw[El];refine⟨_,h.memPtr,?_⟩;rw[El];exact b _ _ ⟨rfl,rfl⟩
def BP(gen kind n:Int):Prop:=(0<=gen/\gen<=4)/\(((kind=0\/kind=1)/\n=2)\/((kind=2\/kind=3)/\1<=n/\n<=63))
instance (gen kind n:Int):Decidable (BP gen kind n):=by unfold BP;infer_instance
theorem ua:jK.C a d k H (λv f=>v=.bool (decide (BP a d k))/\f=H):=by
 refine Ei λR b=>jK.link ?_;unfold jK.pt;by_cases c:a<0\/a>4
 ·rw[ka (by simpa using c)];exact b _ _ ⟨by rw[zQ (λh=>by have:=h.1;omega)],rfl⟩
 rw[kb (by simpa using c)];by_cases e:d=0\/d=1
 ·rw[ka (by simpa using e)];refine b _ _ ⟨?_,rfl⟩;congr 1;rw[Bool.eq_iff_iff,Ex];unfold BP;simp only[Ex,Fc,EF,EU];omega
 ·rw[kb (by simpa using e)];refine b _ _ ⟨?_,rfl⟩;congr 1;rw[Bool.eq_iff_iff,Ex];unfold BP;simp only[Ex,Fc,EF,EU];omega
theorem pI(h:SpAt H r i)(g:SpOK i)(l:0<=a/\a<=4)(hk:0<=d/\d<=3):
  dK.C (some ⟨r.sp,0,none⟩) a d H (λv j=>v=(if i.cur a.toNat d.toNat=0 then .tuple #[vi 0,VF]else .tuple #[vi (i.cur a.toNat d.toNat-1),VT])/\j=H):=by
 refine Ei λR e=>dK.link ?_;unfold dK.pt zY;rw[El,kb GF,kb GF,kb GF,kb GF]
 have f:hat H (Addr.add (Addr.add (Addr.add ⟨r.sp,0,none⟩ 1) (a.toNat*4)) (d.toNat*1))=some (vi (i.cur a.toNat d.toNat)):=by
  simp only[Ej,Eo,EG];exact h.curAt GF GF
 refine⟨GF,GF,_,f,?_⟩;by_cases b:i.cur a.toNat d.toNat=0
 ·rw[ka b];exact e _ _ ⟨by rw[ka b],rfl⟩
 ·rw[kb b];refine⟨GF,GF,_,f,e _ _ ⟨?_,rfl⟩⟩;rw[kb b];have m:=g.mem.lim;rcases g.cur a.toNat d.toNat with c | ⟨c,k,_⟩
  ·exact absurd c b
  ·rw[n5 (by have:=k.2.1;omega)]
def Sp.alloc(s:Sp)(gen kind n:Int):Sp×Int×Int:=
 if ¬BP gen kind n then(s,0,1)
 else if s.cur gen.toNat kind.toNat≠0/\(s.mem.bump (s.cur gen.toNat kind.toNat-1) n).2.2=0 then
  ({s with mem:=(s.mem.bump (s.cur gen.toNat kind.toNat-1) n).1},(s.mem.bump (s.cur gen.toNat kind.toNat-1) n).2.1,0)
 else if(s.mem.take gen kind).2.2=0 then
  ({mem:=((s.mem.take gen kind).1.bump (s.mem.take gen kind).2.1 n).1,cur:=(s.setCur gen.toNat kind.toNat ((s.mem.take gen kind).2.1+1)).cur},((s.mem.take gen kind).1.bump (s.mem.take gen kind).2.1 n).2.1,((s.mem.take gen kind).1.bump (s.mem.take gen kind).2.1 n).2.2)
 else(s,0,(s.mem.take gen kind).2.2)
theorem nw(h:SpAt H r i)(p:SpOK i)(y:i.mem.count<4611686018427387904):
  dR.C (some ⟨r.sp,0,none⟩) a d x H (λv q=>v=.tuple #[vi (i.alloc a d x).2.1,vi (i.alloc a d x).2.2]/\SpAt q r (i.alloc a d x).1/\Fr [r.sp,r.m,r.s] H q):=by
 refine Ei λR l=>dR.link ?_;unfold dR.pt zY;refine gc (oe h) ?_;rintro _ s ⟨rfl,rfl⟩;refine⟨_,rfl,?_⟩;rw[kb GG];refine gc ua ?_;rintro _ s ⟨rfl,rfl⟩;refine⟨_,rfl,?_⟩;by_cases hm:BP a d x
 case neg=>
  rw[kb (by simpa using hm)];have e:i.alloc a d x=(i,0,1):=by unfold Sp.alloc;rw[ka hm]
  rw[e]at l;exact l _ _ ⟨rfl,h,Ey _ _⟩
 rw[ka (zX hm)];have Y:=hm.1;have hk:0<=d/\d<=3:=by have:=hm.2;omega
 refine gc (pI h p Y hk) ?_;rintro _ s ⟨rfl,rfl⟩
 have K: ∃(F:Int) (D:Bool),(if i.cur a.toNat d.toNat=0 then Value.tuple #[vi 0,VF]else .tuple #[vi (i.cur a.toNat d.toNat-1),VT])=.tuple #[vi F,.bool D]/\((D=false/\i.cur a.toNat d.toNat=0)\/(D=true/\i.cur a.toNat d.toNat≠0/\F=i.cur a.toNat d.toNat-1)):=by
  by_cases j:i.cur a.toNat d.toNat=0
  ·rw[ka j];exact⟨_,_,rfl,.inl ⟨rfl,j⟩⟩
  ·rw[kb j];exact⟨_,_,rfl,.inr ⟨rfl,j,rfl⟩⟩
 obtain⟨F,D,Z,X⟩:=K;refine⟨F,D,Z,?_⟩;refine⟨λq=>SpAt q r i/\Fr [r.sp,r.m,r.s] s q/\ ¬(i.cur a.toNat d.toNat≠0/\(i.mem.bump (i.cur a.toNat d.toNat-1) x).2.2=0),?_,?_⟩
 ·rcases X with⟨rfl,j⟩ | ⟨rfl,j,rfl⟩
  ·rw[kb GG];exact⟨h,Ey _ _,λf=>f.1 j⟩
  ·rw[ka rfl];refine⟨_,rfl,_,h.memPtr,?_⟩;refine gc (qj h.mem p.mem) ?_;rintro _ T ⟨rfl,n,G⟩;refine⟨_,_,rfl,?_⟩;have t:Fr [r.sp,r.m,r.s] s T:=G.mono (λa4 c _=>by simp at c;simp[c]);by_cases w:(i.mem.bump (i.cur a.toNat d.toNat-1) x).2.2=0
   ·rw[ka w]
    have e:i.alloc a d x=({i with mem:=(i.mem.bump (i.cur a.toNat d.toNat-1) x).1},(i.mem.bump (i.cur a.toNat d.toNat-1) x).2.1,0):=by
     unfold Sp.alloc;rw[kb (λf=>f hm),ka ⟨j,w⟩]
    rw[e]at l;exact l _ _ ⟨rfl,h.withMem G (by have:=h.ne;simp;omega) n,t⟩
   ·rw[kb w];rw[Mem.bump_fail w]at n;have:=h.withMem G (by have:=h.ne;simp;omega) n;exact⟨this,t,λf=>w f.2⟩
 rintro H4 ⟨E,V,z⟩;refine⟨_,rfl,_,E.memPtr,?_⟩;refine gc (vd E.mem p.mem y) ?_;rintro _ U ⟨rfl,o,I⟩;refine⟨_,_,rfl,?_⟩;have B:r.sp ∉ [r.m,r.s]:=by have:=h.ne;simp;omega
 have u:Fr [r.sp,r.m,r.s] s U:=V.trans (I.mono (λa4 c _=>by simp at c;simp;omega));by_cases b:(i.mem.take a d).2.2=0
 ·rw[ka b];have W:=E.withMem I B o;have A:=W.putCur (g:=a.toNat) (k:=d.toNat) (v:=(i.mem.take a d).2.1+1) GF GF
  have O: -9223372036854775808<=(i.mem.take a d).2.1+1/\(i.mem.take a d).2.1+1<=9223372036854775807:=by
   have hl:=p.mem.lim;unfold Mem.take at b⊢;rw[kb GF]at b⊢;by_cases L:i.mem.free=0
   ·rw[ka L]at b;exact absurd b (show ¬((2:Int)=0)by decide)
   ·rw[kb L];have:=(FY p.mem L).1;show-9223372036854775808<=(i.mem.first:Int)+1/\(i.mem.first:Int)+1<=_;omega
  simp only[Ej,Eo,EG];rw[n5 O];refine⟨GF,GF,A.1,λH6 J=>?_⟩;subst J;refine⟨_,A.2.1.memPtr,?_⟩;refine gc (qj A.2.1.mem (p.mem.take a d)) ?_;rintro _ H7 ⟨rfl,M,P⟩;refine⟨_,_,rfl,?_⟩
  have e:i.alloc a d x=({mem:=((i.mem.take a d).1.bump (i.mem.take a d).2.1 x).1,cur:=(i.setCur a.toNat d.toNat ((i.mem.take a d).2.1+1)).cur},((i.mem.take a d).1.bump (i.mem.take a d).2.1 x).2.1,((i.mem.take a d).1.bump (i.mem.take a d).2.1 x).2.2):=by
   unfold Sp.alloc;rw[kb (λf=>f hm),kb z,ka b]
  rw[e]at l;refine l _ _ ⟨rfl,A.2.1.withMem P (by have:=h.ne;simp;omega) M,?_⟩;exact(u.trans (A.2.2.mono (λa4 c _=>by simp at c;simp[c]))).trans (P.mono (λa4 c _=>by simp at c;simp[c]))
 ·rw[kb b]
  have e:i.alloc a d x=(i,0,(i.mem.take a d).2.2):=by
   unfold Sp.alloc;rw[kb (λf=>f hm),kb z,kb b]
  rw[e]at l
  have N:(i.mem.take a d).1=i.mem:=by
   unfold Mem.take at b⊢;by_cases Q:a<0\/4<a\/d<0\/3<d
   ·rw[ka Q]
   rw[kb Q]at b⊢;by_cases S:i.mem.free=0
   ·rw[ka S]
   ·rw[kb S]at b;exact absurd rfl b
  rw[N]at o;exact l _ _ ⟨rfl,E.withMem I B o,u⟩
theorem ub(q:BT a):
  jG.C a H (λv d=>(¬(8<=a/\a<=1024)/\v=.tuple #[vp none,vi 1]/\Ext H d)\/
   ((8<=a/\a<=1024)/\ ∃b:Blk,v=.tuple #[vp (some ⟨b.sp,0,none⟩),vi 0]/\SpAt d b ⟨Mem.fresh a.toNat,λ_ _=>0⟩/\Ext H d/\H.size<=b.s/\b.s<b.m/\b.m<b.sp)):=by
 refine Ei λR j=>jG.link ?_;unfold jG.pt;refine gc (wT q) ?_;rintro _ u (⟨hn,rfl,rfl⟩ | ⟨t,e,i,rfl,hm,l,h,f⟩)
 ·refine⟨_,_,rfl,?_⟩;rw[kb GG];exact j _ _ (.inl ⟨hn,rfl,ED _⟩)
 ·refine⟨_,_,rfl,?_⟩;rw[ka rfl];intro b w p c;have r:=hm.lt;refine j _ _ (.inr ⟨t,⟨0,0,b,e,i⟩,rfl,?_,l.trans (Eh c),h,f,by show e<b;omega⟩);refine⟨hm.ext (Eh c),⟨by show b≠e;omega,by show b≠i;omega⟩,_,aK p c,rfl,rfl,λg k x hk=>?_⟩;have o:g=0\/g=1\/g=2\/g=3\/g=4:=GF;have n:k=0\/k=1\/k=2\/k=3:=GF;rcases o with rfl | rfl | rfl | rfl | rfl<;>rcases n with rfl | rfl | rfl | rfl<;>rfl
theorem ve(h:8<=g/\g<=1024):SpOK ⟨Mem.fresh g,λ_ _=>0⟩:=⟨t8 h,λ_ _=> .inl rfl⟩
structure CdAt (H:zV) (b:Blk) (s:Sp):Prop where
 sp:SpAt H b s
 ne:b.c≠b.sp/\b.c≠b.m/\b.c≠b.s
 c:H[b.c]?=some (.cells #[vp (some ⟨b.sp,0,none⟩)] 83 (0,0))
theorem CdAt.keep{S:List Nat}(h:CdAt H r i)(f:Fr S H u)(e:r.c ∉ S)(a:r.sp ∉ S)(b:r.m ∉ S)(d:r.s ∉ S):CdAt u r i:=
 ⟨h.sp.keep f a b d,h.ne,f.get e h.c⟩
theorem CdAt.ext{b:Blk}{s:Sp}(h:CdAt H b s)(f:Ext H u):CdAt u b s:=h.keep (S:=[]) f.fr GH GH GH GH
theorem CdAt.withSp{a:Sp}(h:CdAt H r i)(f:Fr y H u)(b:r.c ∉ y)(d:SpAt u r a):CdAt u r a:=⟨d,h.ne,f.get b h.c⟩
theorem CdAt.cPtr{s:Sp}(h:CdAt H r s):hat H ⟨r.c,0,none⟩=some (vp (some ⟨r.sp,0,none⟩)):=by rw[aW h.c];rfl
theorem CdAt.withMem{m:Mem}{S:List Nat}(h:CdAt H r i)(f:Fr S H u)(b: ∀c,c∈S->c=r.m\/c=r.s)(hm:eG u r.m r.s m):CdAt u r {i with mem:=m}:=
 h.withSp f (λa=>by have:=b _ a;have:=h.ne;omega) (h.sp.withMem f (λa=>by have:=b _ a;have:=h.sp.ne;omega) hm)
theorem mR(h:CdAt H r i):eK.C (some ⟨r.c,0,none⟩) H (λv a=>v=VF/\a=H):=by
 refine Ei λR b=>eK.link ?_;unfold eK.pt;rw[El];refine⟨_,h.cPtr,?_⟩;rw[El];refine⟨_,h.cPtr,_,rfl,_,h.sp.memPtr,?_⟩;rw[El];exact b _ _ ⟨rfl,rfl⟩
def ic(w:Int):Prop:=(w % 8=1\/w % 8=2\/w % 8=3\/w % 8=6)/\w / 8<65536
instance (w:Int):Decidable (ic w):=by unfold ic;infer_instance
def Mem.genOf(m:Mem)(w:Int):Int×Bool:=if ic w/\w % 8≠6 then((if m.has (w / 8 / 64)then(m.seg (w / 8 / 64).toNat).gen else 0),decide (m.has (w / 8 / 64)))else(0,false)
theorem vf(h:CdAt H r i)(w:aO a):fW.C (some ⟨r.c,0,none⟩) a H (λv y=>v=.tuple #[vi (i.mem.genOf a).1,.bool (i.mem.genOf a).2]/\Ext H y):=by
 refine Ei λR d=>fW.link ?_;unfold fW.pt zY;refine gc (kf w) ?_;rintro _ H1 ⟨rfl,g⟩
 have u: ∃(O:Int) (p:Bool),(if(a % 8=1\/a % 8=2\/a % 8=3\/a % 8=6)/\a / 8<65536 then Value.tuple #[vi (a / 8),VT]else .tuple #[vi 0,VF])=.tuple #[vi O,.bool p]/\((ic a/\p=true/\O=a / 8)\/(¬ic a/\p=false)):=by
  by_cases b:(a % 8=1\/a % 8=2\/a % 8=3\/a % 8=6)/\a / 8<65536
  ·rw[ka b];exact⟨_,_,rfl,.inl ⟨b,rfl,rfl⟩⟩
  ·rw[kb b];exact⟨_,_,rfl,.inr ⟨b,rfl⟩⟩
 obtain⟨O,p,u,I⟩:=u;refine⟨O,p,u,?_⟩;refine gc (mR (h.ext g)) ?_;rintro _ L ⟨rfl,rfl⟩;refine⟨_,rfl,?_⟩;rw[kb GG];rcases I with⟨o,rfl,rfl⟩ | ⟨o,rfl⟩
 case inr=>
  rw[kb GG];have e:i.mem.genOf a=(0,false):=by unfold Mem.genOf;rw[kb (λb=>o b.1)]
  rw[e]at d;exact d _ _ ⟨rfl,g⟩
 rw[ka rfl];refine gc (gk w) ?_;rintro _ M ⟨rfl,q⟩;refine⟨_,rfl,?_⟩;by_cases m:a % 8=6
 ·rw[ka m];have e:i.mem.genOf a=(0,false):=by unfold Mem.genOf;rw[kb (λb=>b.2 m)]
  rw[e]at d;exact d _ _ ⟨rfl,g.trans q⟩
 rw[kb m];have s:=h.ext (g.trans q);have K:a / 8<65536:=o.2;have x:0<=a / 8:=by have:=w.1;omega
 refine⟨_,rfl,_,s.cPtr,_,rfl,_,s.sp.memPtr,?_⟩;rw[lT x,n5 GF];refine gc (lV s.sp.mem) ?_;rintro _ z ⟨rfl,D⟩
 have e:i.mem.genOf a=((if i.mem.has (a / 8 / 64)then i.mem.seg (a / 8 / 64).toNat else Seg.none).gen,decide (i.mem.has (a / 8 / 64))):=by
  unfold Mem.genOf;rw[ka ⟨o,m⟩];by_cases b:i.mem.has (a / 8 / 64)
  ·rw[ka b,ka b]
  ·rw[kb b,kb b];rfl
 rw[e]at d;generalize (if i.mem.has (a / 8 / 64)then i.mem.seg (a / 8 / 64).toNat else Seg.none)=f at d;refine⟨_,_,_,_,_,_,_,_,rfl,λN A F k=>?_⟩;obtain⟨G,J⟩:=E7 (vs:=[vi f.gen,vi f.kind,vi f.n,vi (f.cards 0),vi (f.cards 1),vi (f.cards 2),vi (f.cards 3)]) (H1:=A) (aK F k) rfl rfl;refine⟨G,λB t=>?_⟩;obtain⟨l,E⟩:=J B t;have j:Ext H z:=(g.trans q).trans D;exact⟨_,by have:=l.1;rw[Ej]at this;exact this,d _ _ ⟨rfl,E H (j.trans (Eh k)) (by have:=j.size;omega)⟩⟩
def Mem.younger(m:Mem)(sg:Seg)(w mark:Int):Int:=if(m.genOf w).2=true/\sg.kind≠3/\(m.genOf w).1<sg.gen then min mark (m.genOf w).1 else mark
theorem qk{b:Seg}(h:CdAt H r i)(x:aO a):
  eE.C (some ⟨r.c,0,none⟩) b.gen b.kind b.n (b.cards 0) (b.cards 1) (b.cards 2) (b.cards 3) a d H (λv s=>v=vi (i.mem.younger b a d)/\Ext H s):=by
 refine Ei λR l=>eE.link ?_;unfold eE.pt;intro A t w g;have o:Ext H t:=Eh g;have u:=aK w g;refine gc (vf (h.ext o) x) ?_;rintro _ z ⟨rfl,p⟩;have e:=o.trans p;have q:=p.get u;refine⟨_,_,rfl,?_⟩;by_cases f:(i.mem.genOf a).2=true
 case neg=>
  rw[kb f];exact l _ _ ⟨by unfold Mem.younger;rw[kb (λj=>f j.1)],e⟩
 rw[ka f];refine⟨b.kind,by rw[Ej,aW q];rfl,?_⟩;by_cases hk:b.kind=3
 ·rw[ka hk];exact l _ _ ⟨by unfold Mem.younger;rw[kb (λj=>j.2.1 hk)],e⟩
 rw[kb hk];refine⟨b.gen,by rw[aW q];rfl,?_⟩;by_cases m:(i.mem.genOf a).1<b.gen
 ·rw[ka m];refine l _ _ ⟨?_,e⟩
  have k:(if(i.mem.genOf a).1<d then(i.mem.genOf a).1 else d)=min d (i.mem.genOf a).1:=by
   by_cases hm:(i.mem.genOf a).1<d
   ·rw[ka hm];omega
   ·rw[kb hm];omega
  have y:i.mem.younger b a d=min d (i.mem.genOf a).1:=by
   unfold Mem.younger;rw[ka (show(i.mem.genOf a).2=true/\b.kind≠3/\(i.mem.genOf a).1<b.gen from⟨f,hk,m⟩)]
  rw[k,y]
 ·rw[kb m];exact l _ _ ⟨by unfold Mem.younger;rw[kb (λj=>m j.2.2)],e⟩
def Mem.store(m:Mem)(a w:Int):Mem×Int:=
 if m.used a then(m.set a w).mark (a / 64) (a % 64 / 16) ((m.set a w).younger ((m.set a w).seg (a / 64).toNat) w (((m.set a w).seg (a / 64).toNat).cards (a % 64 / 16).toNat))
 else(m,18)
theorem Mem.set_has:(b.set a d).has k ↔ b.has k:=by
 unfold Mem.has Mem.set;rw[Mem.upd_limit,E0];by_cases h:k.toNat=(a / 64).toNat
 ·rw[ka h];simp only[Seg.set,h]
 ·rw[kb h]
theorem vh(r:BT a):
  kv.C a H (λv g=>(¬(8<=a/\a<=1024)/\v=.tuple #[vp none,vi 1]/\Ext H g)\/
   ((8<=a/\a<=1024)/\ ∃b:Blk,v=.tuple #[vp (some ⟨b.c,0,none⟩),vi 0]/\CdAt g b ⟨Mem.fresh a.toNat,λ_ _=>0⟩/\Ext H g/\H.size<=b.s/\b.s<b.m/\b.m<b.sp/\b.sp<b.c)):=by
 refine Ei λR l=>kv.link ?_;unfold kv.pt;refine gc (ub r) ?_;rintro _ o (⟨hn,rfl,h⟩ | ⟨u,b,rfl,n,h,j,i,k⟩)
 ·refine⟨_,_,rfl,?_⟩;rw[kb GG];exact l _ _ (.inl ⟨hn,rfl,h⟩)
 ·refine⟨_,_,rfl,?_⟩;rw[ka rfl];intro f w p d;have t:b.sp<o.size:=by obtain⟨x,q,_⟩:=n.sp;exact aS q
  have e:=n.ext (Eh d);refine l _ _ (.inr ⟨u,{b with c:=f},rfl,⟨⟨e.mem,e.ne,e.sp⟩,⟨by show f≠b.sp;omega,by show f≠b.m;omega,by show f≠b.s;omega⟩,aK p d⟩,h.trans (Eh d),j,i,k,by show b.sp<f;omega⟩)
structure Hp where
 sp:Sp
 sy:Value
 en:Value
 ep:Int
variable{o:Option (Blk×Hp)}{w:Hp}
structure HpAt (H:zV) (b:Blk) (x:Hp):Prop where
 cd:CdAt H b x.sp
 ne:b.h≠b.c/\b.h≠b.sp/\b.h≠b.m/\b.h≠b.s
 h:H[b.h]?=some (.cells #[vp (some ⟨b.c,0,none⟩),x.sy,x.en,vu x.ep] 56 (0,0))
theorem HpAt.keep{S:List Nat}(h:HpAt H r w)(f:Fr S H u)(b: ∀i,i∈S->i ∉ r.all):HpAt u r w:=
 ⟨h.cd.keep f (λa=>b _ a (by simp[Blk.all])) (λa=>b _ a (by simp[Blk.all])) (λa=>b _ a (by simp[Blk.all])) (λa=>b _ a (by simp[Blk.all])),h.ne,f.get (λa=>b _ a (by simp[Blk.all])) h.h⟩
theorem HpAt.ext{b:Blk}(h:HpAt H b w)(f:Ext H u):HpAt u b w:=h.keep (S:=[]) f.fr GH
theorem HpAt.withCd(h:HpAt H r w)(f:Fr y H u)(a: ∀d,d∈y->d=r.sp\/d=r.m\/d=r.s)(b:CdAt u r i):HpAt u r {w with sp:=i}:=
 ⟨b,h.ne,f.get (λc=>by have:=a _ c;have:=h.ne;omega) h.h⟩
theorem HpAt.withSp(h:HpAt H r w)(f:Fr y H u)(a: ∀d,d∈y->d=r.sp\/d=r.m\/d=r.s)(b:SpAt u r i):HpAt u r {w with sp:=i}:=
 h.withCd f a (h.cd.withSp f (λc=>by have:=a _ c;have:=h.cd.ne;omega) b)
theorem HpAt.withMem{S:List Nat}{m:Mem}(h:HpAt H r w)(f:Fr S H u)(a: ∀i,i∈S->i=r.m\/i=r.s)(b:eG u r.m r.s m):HpAt u r {w with sp:={w.sp with mem:=m}}:=
 h.withCd f (λi c=> .inr (a i c)) (h.cd.withMem f a b)
theorem HpAt.hPtr(h:HpAt H r w):hat H ⟨r.h,0,none⟩=some (vp (some ⟨r.c,0,none⟩)):=by rw[aW h.h];rfl
theorem HpAt.lt{b:Blk}(h:HpAt H b w): ∀i,i∈b.all->i<H.size:=by
 intro i d;have f:=aS h.h;have g:=aS h.cd.c;obtain⟨e,a,_⟩:=h.cd.sp.sp;have j:=aS a;have k:=h.cd.sp.mem.lt;simp[Blk.all]at d;omega
theorem De{p q:Bool}(h:p=q):Value.tuple #[vi a,.bool p]=.tuple #[vi a,.bool q]:=by rw[h]
inductive View (H:zV):zW->Option (Blk×Hp)->Prop
 | nobody:View H none none
 | empty {a:Addr} (h:hat H a=some (vp none)):View H (some a) none
 | real {b:Blk} {x:Hp} (h:HpAt H b x) (ok:SpOK x.sp):View H (some ⟨b.h,0,none⟩) (some (b,x))
def nc:Option (Blk×Hp)->Mem
 | none=>Mem.fresh 0
 | some (_,x)=>x.sp.mem
theorem View.ext(V:View H j o)(e:Ext H u):View u j o:=by
 cases V with
 | nobody=>exact .nobody
 | empty h=>exact .empty (e.hat h)
 | real h a=>exact .real (h.ext e) a
theorem ny: ¬(nc none).has a:=λh=>by have:=h.1;have:a< ((0:Nat):Int):=h.2.1;omega
theorem View.word(V:View H j o)(a:Int):aO ((nc o).get a):=by
 cases V with
 | nobody=>exact(by decide:aO 0)
 | empty h=>exact(by decide:aO 0)
 | real h b=>exact(b.mem.seg _).words _
theorem nJ(V:View H j o):fH.C j H (λv b=>v=.bool o.isNone/\b=H):=by
 refine Ei λR a=>fH.link ?_;unfold fH.pt
 cases V with
 | nobody=>rw[Ev];exact a _ _ ⟨rfl,rfl⟩
 | empty h=>rw[El];refine⟨_,h,?_⟩;rw[Ev];exact a _ _ ⟨rfl,rfl⟩
 | real h c=>rw[El];refine⟨_,h.hPtr,?_⟩;rw[El];exact a _ _ ⟨rfl,rfl⟩
def Mem.atW(m:Mem)(w tag kind:Int):Prop:=ic w/\w % 8=tag/\m.has (w / 8 / 64)/\(m.seg (w / 8 / 64).toNat).kind=kind/\w / 8 % 64< (m.seg (w / 8 / 64).toNat).n
instance (m:Mem) (w tag kind:Int):Decidable (m.atW w tag kind):=by unfold Mem.atW;infer_instance
theorem Mem.atW.used{m:Mem}(h:m.atW a d k)(b:aO a):m.used (a / 8):=⟨by have:=b.1;omega,h.2.2.1,h.2.2.2.2⟩
theorem qn(V:View H j o)(Q:aO a):
  gJ.C j a d k H (λv y=> ∃a2:Int,v=.tuple #[vi a2,.bool (decide ((nc o).atW a d k))]/\((nc o).atW a d k->a2=a / 8)/\Ext H y):=by
 refine Ei λR M=>gJ.link ?_;unfold gJ.pt zY;refine gc (kf Q) ?_;rintro _ H1 ⟨rfl,A⟩
 have w: ∃(a2:Int) (p:Bool),(if(a % 8=1\/a % 8=2\/a % 8=3\/a % 8=6)/\a / 8<65536 then Value.tuple #[vi (a / 8),VT]else .tuple #[vi 0,VF])=.tuple #[vi a2,.bool p]/\((ic a/\p=true/\a2=a / 8)\/(¬ic a/\p=false)):=by
  by_cases I:(a % 8=1\/a % 8=2\/a % 8=3\/a % 8=6)/\a / 8<65536
  ·rw[ka I];exact⟨_,_,rfl,.inl ⟨I,rfl,rfl⟩⟩
  ·rw[kb I];exact⟨_,_,rfl,.inr ⟨I,rfl⟩⟩
 obtain⟨a2,p,w,W⟩:=w;refine⟨a2,p,w,?_⟩;refine gc (nJ (V.ext A)) ?_;rintro _ Y ⟨rfl,rfl⟩;refine⟨_,rfl,?_⟩;have no: ∀(a2:Int) y,¬(nc o).atW a d k->Ext H y->R (.tuple #[vi a2,VF]) y:=λa2 y hn e=>M _ _ ⟨a2,by rw[zQ hn],λh=>absurd h hn,e⟩
 cases V with
 | nobody=>rw[ka (show(none:Option (Blk×Hp)).isNone=true from rfl)];exact no _ _ (λh=>ny h.2.2.1) A
 | empty h=>rw[ka (show(none:Option (Blk×Hp)).isNone=true from rfl)];exact no _ _ (λh=>ny h.2.2.1) A
 | @real b x h ok=>
  rw[kb (show ¬(some (b,x)).isNone=true from Bool.false_ne_true)];rcases W with⟨G,rfl,rfl⟩ | ⟨G,rfl⟩
  case inr=>rw[kb GG];exact no _ _ (λh=>G h.1) A
  rw[ka rfl];refine gc (gk Q) ?_;rintro _ Z ⟨rfl,U⟩;refine⟨_,rfl,?_⟩;have t:=A.trans U;by_cases J:a % 8=d
  case neg=>rw[kb J];exact no _ _ (λh=>J h.2.1) t
  rw[ka J];have F:=h.ext t;have X:a / 8<65536:=G.2;have D:0<=a / 8:=by have:=Q.1;omega
  refine⟨_,rfl,_,F.hPtr,_,rfl,_,F.cd.cPtr,_,rfl,_,F.cd.sp.memPtr,?_⟩;rw[lT D,n5 (n:=a / 8 / 64) GF,lU D];refine gc (lV F.cd.sp.mem) ?_;rintro _ H4 ⟨rfl,S⟩;show∃a2 b c a3 e f g q,_/\_;have hm:nc (some (b,x))=x.sp.mem:=rfl;rw[hm]at no M;by_cases i:x.sp.mem.has (a / 8 / 64)
  ·rw[ka i,zX i];generalize B:x.sp.mem.seg (a / 8 / 64).toNat=l at*;refine⟨_,_,_,_,_,_,_,_,rfl,λT K N r=>?_⟩;obtain⟨O,P⟩:=E7 (vs:=[vi l.gen,vi l.kind,vi l.n,vi (l.cards 0),vi (l.cards 1),vi (l.cards 2),vi (l.cards 3)]) (H1:=K) (aK N r) rfl rfl;refine⟨O,λz u=>?_⟩;obtain⟨s,L⟩:=P z u;have m:=t.trans S;have E:Ext H z:=L H (m.trans (Eh r)) (by have:=m.size;omega);rw[ka rfl];refine⟨l.kind,s.2.1,?_⟩;by_cases hk:l.kind=k
   ·rw[ka hk];refine⟨l.n,s.2.2.1,M _ _ ⟨_,?_,λ_=>rfl,E⟩⟩;refine De ?_;rw[F2];unfold Mem.atW;rw[B];exact⟨λh=>⟨G,J,i,hk,h⟩,λh=>h.2.2.2.2⟩
   ·rw[kb hk];exact no _ _ (λh=>hk (by have:=h.2.2.2.1;rw[B]at this;exact this)) E
  ·rw[kb i,zQ i];generalize Seg.none=l;refine⟨_,_,_,_,_,_,_,_,rfl,λT K N r=>?_⟩;obtain⟨O,P⟩:=E7 (vs:=[vi l.gen,vi l.kind,vi l.n,vi (l.cards 0),vi (l.cards 1),vi (l.cards 2),vi (l.cards 3)]) (H1:=K) (aK N r) rfl rfl;refine⟨O,λz u=>?_⟩;obtain⟨s,L⟩:=P z u;have m:=t.trans S;have E:Ext H z:=L H (m.trans (Eh r)) (by have:=m.size;omega);rw[kb GG];exact no _ _ (λh=>i h.2.2.1) E
def kA(x:Int):Prop:=x % 8=5/\(1<=x / 8 % 32/\x / 8 % 32<=13/\x / 256 % 256<=62)
instance (x:Int):Decidable (kA x):=by unfold kA;infer_instance
def hk(x:Int):Int:=x / 8 % 32
def hn(x:Int):Int:=x / 256 % 256
def hm(x:Int):Int:=x / 65536
def oN(k:Int):Int:=if k=2\/k=3 then 3 else 2
theorem rY:kO.C a H (λv c=>v=vi (oN a)/\c=H):=by
 refine Ei λR b=>kO.link ?_;unfold kO.pt;by_cases h:a=2\/a=3
 ·rw[ka (by simpa using h)];exact b _ _ ⟨by unfold oN;rw[ka h],rfl⟩
 ·rw[kb (by simpa using h)];exact b _ _ ⟨by unfold oN;rw[kb h],rfl⟩
def Mem.isObj(m:Mem)(w:Int):Prop:=m.atW w 3 (oN (hk (m.get (w / 8))))/\kA (m.get (w / 8))/\w / 8 % 64+hn (m.get (w / 8))< (m.seg (w / 8 / 64).toNat).n
instance (m:Mem) (w:Int):Decidable (m.isObj w):=by unfold Mem.isObj;infer_instance
theorem th(V:View H j o)(X:aO a):
  cO.C j a H (λv g=>v=(if(nc o).isObj a then .tuple #[vi (a / 8),vi (hk ((nc o).get (a / 8))),vi (hn ((nc o).get (a / 8))),vu (hm ((nc o).get (a / 8))),VT]
   else .tuple #[vi 0,vi 0,vi 0,vu 0,VF])/\Ext H g):=by
 refine Ei λR hR=>cO.link ?_;unfold cO.pt zY;refine⟨λi g=>(0<=i/\i<=2)/\Ext H g/\(1<=i-> ¬((nc o).isObj a/\oN (hk ((nc o).get (a / 8)))=2))/\(2<=i-> ¬((nc o).isObj a/\oN (hk ((nc o).get (a / 8)))=3)),λi _=>(2-i).toNat,⟨GF,ED _,λh=>GF,λh=>GF⟩,?_⟩;rintro i H1 ⟨hi,O,n2,n3⟩;by_cases s:i<2
 case neg=>
  rw[kb s];refine hR _ _ ⟨?_,O⟩;rw[kb];intro hO;by_cases e:oN (hk ((nc o).get (a / 8)))=2
  ·exact n2 GF ⟨hO,e⟩
  ·refine n3 GF ⟨hO,?_⟩;unfold oN at e⊢;by_cases h:hk ((nc o).get (a / 8))=2\/hk ((nc o).get (a / 8))=3
   ·rw[ka h]
   ·rw[kb h]at e;exact absurd rfl e
 rw[ka s]
 have Y: ∃x:Int,(#[vi 2,vi 3]:Array Value)[i.toNat]?=some (vi x)/\((i=0/\x=2)\/(i=1/\x=3)):=by
  have:i=0\/i=1:=GF;rcases this with rfl | rfl
  ·exact⟨2,rfl,.inl ⟨rfl,rfl⟩⟩
  ·exact⟨3,rfl,.inr ⟨rfl,rfl⟩⟩
 obtain⟨x,Y,E⟩:=Y;refine⟨x,⟨⟨hi.1,s⟩,Y⟩,?_⟩;have V1:=V.ext O;rw[n5 (n:=i+1) GF]
 have next: ∀g,Ext H g-> ¬((nc o).isObj a/\oN (hk ((nc o).get (a / 8)))=x)->((0<=i+1/\i+1<=2)/\Ext H g/\(1<=i+1-> ¬((nc o).isObj a/\oN (hk ((nc o).get (a / 8)))=2))/\(2<=i+1-> ¬((nc o).isObj a/\oN (hk ((nc o).get (a / 8)))=3)))/\(2-(i+1)).toNat< (2-i).toNat:=by
  intro g e' F;refine⟨⟨GF,e',λ_=>?_,λw=>?_⟩,GF⟩
  ·rcases E with⟨rfl,rfl⟩ | ⟨rfl,rfl⟩
   ·exact F
   ·exact n2 GF
  ·rcases E with⟨rfl,rfl⟩ | ⟨rfl,rfl⟩
   ·omega
   ·exact F
 refine gc (qn V1 X) ?_;rintro _ H2 ⟨ax,rfl,ha,e2⟩;refine⟨_,_,rfl,?_⟩;have k:=O.trans e2;by_cases c:(nc o).atW a 3 x
 case neg=>
  rw[kb (by simpa using c)];exact next _ k (λh=>c (by rw[<-h.2];exact h.1.1))
 rw[ka (zX c),ha c];have J:0<=a / 8:=by have:=X.1;omega
 have al:a / 8<65536:=c.1.2
 cases V with
 | nobody=>exact absurd c.2.2.1 ny
 | empty h=>exact absurd c.2.2.1 ny
 | @real b y h ok=>
  have U:nc (some (b,y))=y.sp.mem:=rfl;rw[U]at*;have w:=h.ext k;have hu:y.sp.mem.used (a / 8):=c.used X;refine⟨_,rfl,_,w.hPtr,_,rfl,_,w.cd.cPtr,_,rfl,_,w.cd.sp.memPtr,?_⟩;refine gc (je w.cd.sp.mem ok.mem GF) ?_;rintro _ H3 ⟨rfl,rfl⟩;rw[ka hu];refine⟨_,_,rfl,?_⟩;have Z:aO (y.sp.mem.get (a / 8)):=(ok.mem.seg _).words _;refine gc (t7 Z) ?_;rintro _ H4 ⟨rfl,e4⟩
  have u: ∃(p q r:Int) (d:Bool),(if y.sp.mem.get (a / 8) % 8=5/\(1<=y.sp.mem.get (a / 8) / 8 % 32/\y.sp.mem.get (a / 8) / 8 % 32<=13/\y.sp.mem.get (a / 8) / 256 % 256<=62)then Value.tuple #[vi (y.sp.mem.get (a / 8) / 8 % 32),vi (y.sp.mem.get (a / 8) / 256 % 256),vu (y.sp.mem.get (a / 8) / 65536),VT]else .tuple #[vi 0,vi 0,vu 0,VF])=.tuple #[vi p,vi q,vu r,.bool d]/\
    ((kA (y.sp.mem.get (a / 8))/\d=true/\p=hk (y.sp.mem.get (a / 8))/\q=hn (y.sp.mem.get (a / 8))/\r=hm (y.sp.mem.get (a / 8)))\/(¬kA (y.sp.mem.get (a / 8))/\d=false)):=by
   by_cases N:kA (y.sp.mem.get (a / 8))
   ·have m:y.sp.mem.get (a / 8) % 8=5/\(1<=y.sp.mem.get (a / 8) / 8 % 32/\y.sp.mem.get (a / 8) / 8 % 32<=13/\y.sp.mem.get (a / 8) / 256 % 256<=62):=N;rw[ka m];exact⟨_,_,_,_,rfl,.inl ⟨N,rfl,rfl,rfl,rfl⟩⟩
   ·have m: ¬(y.sp.mem.get (a / 8) % 8=5/\(1<=y.sp.mem.get (a / 8) / 8 % 32/\y.sp.mem.get (a / 8) / 8 % 32<=13/\y.sp.mem.get (a / 8) / 256 % 256<=62)):=N;rw[kb m];exact⟨_,_,_,_,rfl,.inr ⟨N,rfl⟩⟩
  obtain⟨p,q,r,d,u,Q⟩:=u;refine⟨p,q,r,d,u,?_⟩;have L:=w.ext e4;refine⟨_,L.hPtr,_,rfl,_,L.cd.cPtr,_,rfl,_,L.cd.sp.memPtr,?_⟩;rw[lT J,n5 (n:=a / 8 / 64) GF,lU J];refine gc (lV L.cd.sp.mem) ?_;rintro _ H5 ⟨rfl,e5⟩;have D:y.sp.mem.has (a / 8 / 64):=c.2.2.1;rw[ka D];have W:=(ok.mem.seg (a / 8 / 64).toNat).n;have S:=c.2.2.2.1;have T:=c.2.2.2.2;generalize I:y.sp.mem.seg (a / 8 / 64).toNat=f at W S T⊢;refine⟨_,_,_,_,_,_,_,_,rfl,λb1 H6 hb A=>?_⟩;obtain⟨hc,hs⟩:=E7 (vs:=[vi f.gen,vi f.kind,vi f.n,vi (f.cards 0),vi (f.cards 1),vi (f.cards 2),vi (f.cards 3)]) (H1:=H6) (aK hb A) rfl rfl;refine⟨hc,λH7 P=>?_⟩;obtain⟨G,hE⟩:=hs H7 P;have z:=(k.trans e4).trans e5;have K:Ext H H7:=hE H (z.trans (Eh A)) (by have:=z.size;omega);rcases Q with⟨t,rfl,rfl,rfl,rfl⟩ | ⟨t,rfl⟩
  case inr=>
   rw[kb GG];exact next _ K (λh=>t h.1.2.1)
  rw[ka rfl];refine gc rY ?_;rintro _ H8 ⟨rfl,rfl⟩;refine⟨_,rfl,?_⟩;by_cases e:oN (hk (y.sp.mem.get (a / 8)))=x
  case neg=>rw[kb e];exact next _ K (λh=>e h.2)
  rw[ka e];refine⟨f.n,G.2.2.1,?_⟩;have ai:0<=hn (y.sp.mem.get (a / 8))/\hn (y.sp.mem.get (a / 8))<=255:=by unfold hn;omega
  rw[n5 (n:=a / 8 % 64+hn (y.sp.mem.get (a / 8))) GF];by_cases M:a / 8 % 64+hn (y.sp.mem.get (a / 8))<f.n
  ·rw[ka M];refine hR _ _ ⟨?_,K⟩;have B:y.sp.mem.isObj a:=⟨by rw[e];exact c,t,by rw[I];exact M⟩;have l:(nc (some (b,y))).isObj a:=B;rw[ka l];rfl
  ·rw[kb M];exact next _ K (λh=>M (by have h3:a / 8 % 64+hn (y.sp.mem.get (a / 8))< (y.sp.mem.seg (a / 8 / 64).toNat).n:=h.1.2.2;rw[I]at h3;exact h3))
def Mem.typ(m:Mem)(w:Int):Int:=if m.isObj w then hk (m.get (w / 8))else 0
def Mem.len(m:Mem)(w:Int):Int:=if m.isObj w then hn (m.get (w / 8))else 0
def Mem.more(m:Mem)(w:Int):Int:=if m.isObj w then hm (m.get (w / 8))else 0
theorem jl(V:View H j o)(c:aO a):
  cO.C j a H (λv b=>v=.tuple #[vi (if(nc o).isObj a then a / 8 else 0),vi ((nc o).typ a),vi ((nc o).len a),vu ((nc o).more a),.bool (decide ((nc o).isObj a))]/\Ext H b):=by
 refine gc (th V c) ?_;rintro _ d ⟨rfl,e⟩;refine⟨?_,e⟩;unfold Mem.typ Mem.len Mem.more;by_cases h:(nc o).isObj a
 ·simp only[ka h,zX h]
 ·simp only[kb h,zQ h]
theorem vj(V:View H j o)(e:aO a):
  gD.C j a H (λv b=>v=vi ((nc o).typ a)/\Ext H b):=by
 refine Ei λR d=>gD.link ?_;unfold gD.pt;refine gc (jl V e) ?_;rintro _ f ⟨rfl,c⟩;exact⟨_,_,_,_,_,rfl,d _ _ ⟨rfl,c⟩⟩
theorem wU{w:Int}(V:View H j o)(d:aO w):
  hU.C j w H (λv a=>v=vi ((nc o).len w)/\Ext H a):=by
 refine Ei λR c=>hU.link ?_;unfold hU.pt;refine gc (jl V d) ?_;rintro _ e ⟨rfl,b⟩;exact⟨_,_,_,_,_,rfl,c _ _ ⟨rfl,b⟩⟩
theorem qo(V:View H j o)(e:aO a):
  fQ.C j a H (λv b=>v=vu ((nc o).more a)/\Ext H b):=by
 refine Ei λR d=>fQ.link ?_;unfold fQ.pt;refine gc (jl V e) ?_;rintro _ f ⟨rfl,c⟩;exact⟨_,_,_,_,_,rfl,d _ _ ⟨rfl,c⟩⟩
def Mem.fieldE(m:Mem)(w kind i:Int):Int:=if ¬m.isObj w\/m.typ w≠kind then 3 else if i<0\/m.len w<=i then 4 else 0
theorem Mem.isObj.len_lt(h:b.isObj a):0<=hn (b.get (a / 8))/\hn (b.get (a / 8))<=62:=by
 have:=h.2.1;unfold kA at this;unfold hn;omega
theorem uc(V:View H j o)(l:aO a)(t:BT k):
  fV.C j a d k H (λv m=>v=.tuple #[vi (if(nc o).fieldE a d k=0 then a / 8+1+k else 0),vi ((nc o).fieldE a d k)]/\Ext H m):=by
 refine Ei λR c=>fV.link ?_;unfold fV.pt zY;refine gc (jl V l) ?_;rintro _ s ⟨rfl,i⟩;refine⟨_,_,_,_,_,rfl,?_⟩;by_cases b: ¬(nc o).isObj a\/(nc o).typ a≠d
 ·rw[ka (by simpa using b)];have e:(nc o).fieldE a d k=3:=by unfold Mem.fieldE;rw[ka b]
  rw[e]at c;exact c _ _ ⟨rfl,i⟩
 rw[kb (by simpa using b)];by_cases f:k<0\/(nc o).len a<=k
 ·rw[ka (by simpa using f)];have e:(nc o).fieldE a d k=4:=by unfold Mem.fieldE;rw[kb b,ka f]
  rw[e]at c;exact c _ _ ⟨rfl,i⟩
 rw[kb (by simpa using f)];have e:(nc o).fieldE a d k=0:=by unfold Mem.fieldE;rw[kb b,kb f]
 rw[e]at c;have g:(nc o).isObj a:=Classical.byContradiction λh=>b (.inl h);have r:a / 8<65536:=g.1.1.2;have q:0<=a / 8:=by have:=l.1;omega
 have u:=g.len_lt;have p:(nc o).len a=hn ((nc o).get (a / 8)):=by unfold Mem.len;rw[ka g]
 rw[ka g,n5 (n:=a / 8+1) GF,n5 (n:=a / 8+1+k) GF];exact c _ _ ⟨rfl,i⟩
theorem Mem.isObj.used{m:Mem}{w i:Int}(h:m.isObj w)(e:aO w)(b:(m.seg (w / 8 / 64).toNat).n<=64)(j:0<=i/\i<m.len w):m.used (w / 8+1+i):=by
 have f:0<=w / 8:=by have:=e.1;omega
 have d:m.len w=hn (m.get (w / 8)):=by unfold Mem.len;rw[ka h]
 have g:=h.2.2;have a:(w / 8+1+i) / 64=w / 8 / 64:=GF;have c:(w / 8+1+i) % 64=w / 8 % 64+1+i:=GF;exact⟨GF,by rw[a];exact h.1.2.2.1,by rw[a,c];omega⟩
theorem View.n64(V:View H j o)(k:Nat):((nc o).seg k).n<=64:=by
 cases V with
 | nobody=>exact(by decide:(0:Int)<=64)
 | empty h=>exact(by decide:(0:Int)<=64)
 | real h a=>exact(a.mem.seg k).n.2
theorem Mem.fieldE_0(h:b.fieldE a d k=0):b.isObj a/\b.typ a=d/\0<=k/\k<b.len a:=by
 unfold Mem.fieldE at h;by_cases c: ¬b.isObj a\/b.typ a≠d
 ·rw[ka c]at h;cases h
 rw[kb c]at h;by_cases e:k<0\/b.len a<=k
 ·rw[ka e]at h;cases h
 ·exact⟨Classical.byContradiction λh=>c (.inl h),Classical.byContradiction λh=>c (.inr h),GF,GF⟩
theorem rZ(V:View H j o)(q:aO a)(s:BT k):
  gG.C j a d k H (λv r=>v=.tuple #[vu (if(nc o).fieldE a d k=0 then(nc o).get (a / 8+1+k)else 0),vi ((nc o).fieldE a d k)]/\Ext H r):=by
 refine Ei λR p=>gG.link ?_;unfold gG.pt;refine gc (uc V q s) ?_;rintro _ y ⟨rfl,i⟩;refine⟨_,_,rfl,?_⟩;by_cases c:(nc o).fieldE a d k=0
 case neg=>rw[kb c];exact p _ _ ⟨by rw[kb c],i⟩
 rw[ka c,ka c];obtain⟨e,_,l,f⟩:=Mem.fieldE_0 c;have t:=e.used q (V.n64 _) ⟨l,f⟩
 cases V with
 | nobody=>exact absurd e.1.2.2.1 ny
 | empty h=>exact absurd e.1.2.2.1 ny
 | @real b x h w=>
  have g:=h.ext i;refine⟨_,rfl,_,g.hPtr,_,rfl,_,g.cd.cPtr,_,rfl,_,g.cd.sp.memPtr,?_⟩;have A:=e.len_lt;have u:a / 8<65536:=e.1.1.2;have m:(nc (some _)).len a=_:=ka e;refine gc (je g.cd.sp.mem w.mem (by rw[m]at f;omega)) ?_;rintro _ z ⟨rfl,rfl⟩;have n:x.sp.mem.used (a / 8+1+k):=t;rw[ka n];refine⟨_,_,rfl,p _ _ ⟨?_,i⟩⟩;rw[ka c,c];rfl
theorem SpOK.withMem(j:SpOK i){m:Mem}(hm:bP m)(f: ∀k,i.mem.has k->m.has k)(a: ∀k,(m.seg k).gen=(i.mem.seg k).gen/\(m.seg k).kind=(i.mem.seg k).kind):SpOK {i with mem:=m}:=
 ⟨hm,λg k=>by
  rcases j.cur g k with h | ⟨b,c,d,e⟩
  ·exact .inl h
  ·exact .inr ⟨b,f _ c,by rw[<-d];exact(a _).1,by rw[<-e];exact(a _).2⟩⟩
theorem Mem.mark_has:(b.mark a d k).1.has x ↔ b.has x:=by
 unfold Mem.mark;split
 ·exact Iff.rfl
 split
 ·exact Iff.rfl
 ·unfold Mem.has;show(0<=x/\x< (b.limit:Int)/\((b.upd a.toNat ((b.seg a.toNat).mark d.toNat k)).seg x.toNat).taken≠0) ↔ _;rw[E0];by_cases h:x.toNat=a.toNat
  ·rw[ka h,h];rfl
  ·rw[kb h]
theorem Mem.mark_seg{m:Mem}{k c v:Int}(j:Nat):((m.mark k c v).1.seg j).gen=(m.seg j).gen/\((m.mark k c v).1.seg j).kind=(m.seg j).kind/\((m.mark k c v).1.seg j).n=(m.seg j).n/\((m.mark k c v).1.seg j).words=(m.seg j).words:=by
 unfold Mem.mark;split
 ·exact⟨rfl,rfl,rfl,rfl⟩
 split
 ·exact⟨rfl,rfl,rfl,rfl⟩
 ·show((m.upd k.toNat ((m.seg k.toNat).mark c.toNat v)).seg j).gen=_/\((m.upd k.toNat ((m.seg k.toNat).mark c.toNat v)).seg j).kind=_/\((m.upd k.toNat ((m.seg k.toNat).mark c.toNat v)).seg j).n=_/\((m.upd k.toNat ((m.seg k.toNat).mark c.toNat v)).seg j).words=_;rw[E0];by_cases h:j=k.toNat
  ·rw[ka h,h];exact⟨rfl,rfl,rfl,rfl⟩
  ·rw[kb h];exact⟨rfl,rfl,rfl,rfl⟩
theorem Mem.set_seg{m:Mem}{a w:Int}(j:Nat):((m.set a w).seg j).gen=(m.seg j).gen/\((m.set a w).seg j).kind=(m.seg j).kind/\((m.set a w).seg j).n=(m.seg j).n:=by
 unfold Mem.set;rw[E0];by_cases h:j=(a / 64).toNat
 ·rw[ka h,h];exact⟨rfl,rfl,rfl⟩
 ·rw[kb h];exact⟨rfl,rfl,rfl⟩
theorem bP.store{m:Mem}(b:bP m)(a:Int){w:Int}(c:aO w):bP (m.store a w).1:=by
 unfold Mem.store;split
 ·exact(b.set a c).mark _ _ _
 ·exact b
theorem Mem.store_seg{m:Mem}{a w:Int}(j:Nat):((m.store a w).1.seg j).gen=(m.seg j).gen/\((m.store a w).1.seg j).kind=(m.seg j).kind/\((m.store a w).1.seg j).n=(m.seg j).n:=by
 unfold Mem.store;split
 ·have b:=Mem.mark_seg (m:=m.set a w) (k:=a / 64) (c:=a % 64 / 16) (v:=(m.set a w).younger ((m.set a w).seg (a / 64).toNat) w (((m.set a w).seg (a / 64).toNat).cards (a % 64 / 16).toNat)) j;have d:=Mem.set_seg (m:=m) (a:=a) (w:=w) j;exact⟨b.1.trans d.1,b.2.1.trans d.2.1,b.2.2.1.trans d.2.2⟩
 ·exact⟨rfl,rfl,rfl⟩
theorem EP:type_of% @Mem.store_seg:=@Mem.store_seg
theorem Mem.store_has:(b.store a d).1.has k ↔ b.has k:=by
 unfold Mem.store;split
 ·exact Mem.mark_has.trans Mem.set_has
 ·exact Iff.rfl
theorem FJ:type_of% @Mem.store_has:=@Mem.store_has
theorem SpOK.store(b:SpOK i)(a:Int){w:Int}(c:aO w):SpOK {i with mem:=(i.mem.store a w).1}:=
 b.withMem (b.mem.store a c) (λk h=>FJ.2 h) (λk=>⟨(EP k).1,(EP k).2.1⟩)
def own(o:Option (Blk×Hp)):List Nat:=match o with | none=> [] | some (b,_)=> [b.sp,b.m,b.s]
theorem View.len_bd(V:View H j o)(w:Int):0<=(nc o).len w/\(nc o).len w<=62:=by
 unfold Mem.len;by_cases h:(nc o).isObj w
 ·rw[ka h];exact h.len_lt
 ·rw[kb h];omega
theorem bV.ext{b:List Value}(h:bV H j b)(e:Ext H u):bV u j b:=by
 cases j with
 | none=>exact h
 | some a=>exact e.rowAt h
theorem sc(q:BT a):
  ku.C a H (λv j=>(¬(8<=a/\a<=1024)/\v=.tuple #[vp none,vi 1]/\Ext H j)\/
   ((8<=a/\a<=1024)/\ ∃(b:Blk) (x:Hp),v=.tuple #[vp (some ⟨b.h,0,none⟩),vi 0]/\View j (some ⟨b.h,0,none⟩) (some (b,x))/\x=⟨⟨Mem.fresh a.toNat,λ_ _=>0⟩,VN,VN,0⟩/\Ext H j/\(∀i,i∈b.all->H.size<=i))):=by
 refine Ei λR k=>ku.link ?_;unfold ku.pt;refine gc (vh q) ?_;rintro _ n (⟨hn,rfl,g⟩ | ⟨t,b,rfl,l,g,w,y,z,A⟩)
 ·refine⟨_,_,rfl,?_⟩;rw[kb GG];exact k _ _ (.inl ⟨hn,rfl,g⟩)
 ·refine⟨_,_,rfl,?_⟩;rw[ka rfl];intro f u o e;have r:b.c<n.size:=aS l.c;have d:=l.ext (Eh e);refine k _ _ (.inr ⟨t,{b with h:=f},_,rfl,.real ⟨⟨⟨d.sp.mem,d.sp.ne,d.sp.sp⟩,d.ne,d.c⟩,⟨by show f≠b.c;omega,by show f≠b.sp;omega,by show f≠b.m;omega,by show f≠b.s;omega⟩,aK o e⟩ (ve ⟨GF,GF⟩),rfl,g.trans (Eh e),λi p=>?_⟩);simp[Blk.all]at p;have:=g.size;omega
abbrev Bi(ws:List Int):List Value:=ws.map (Value.int .u64)
theorem j3: ∀a:List Int,kF (Bi a)=true
 | []=>rfl
 | w::a=>by show(true && kF (Bi a))=true;rw[j3 a];rfl
structure Grown (m m':Mem) (a n g k:Int):Prop where
 limit:m'.limit=m.limit
 addr:0<=a/\a / 64<m.limit/\a % 64+n<=64
 new:(m'.seg (a / 64).toNat).taken≠0/\(m'.seg (a / 64).toNat).gen=g/\(m'.seg (a / 64).toNat).kind=k/\(m'.seg (a / 64).toNat).n=a % 64+n
 old:(m.seg (a / 64).toNat).taken≠0->(m.seg (a / 64).toNat).gen=g/\(m.seg (a / 64).toNat).kind=k/\(m.seg (a / 64).toNat).n=a % 64/\(m'.seg (a / 64).toNat).words=(m.seg (a / 64).toNat).words/\(m'.seg (a / 64).toNat).cards=(m.seg (a / 64).toNat).cards/\(m'.seg (a / 64).toNat).taken=(m.seg (a / 64).toNat).taken
 fresh:(m.seg (a / 64).toNat).taken=0->a % 64=0
 others: ∀i,i≠(a / 64).toNat->m'.seg i=m.seg i
 free:m.free-1<=m'.free
 count:m'.count<=m.count+1
theorem Mem.bump_ok(g:bP b)(h:(b.bump a d).2.2=0):b.has a/\1<=d/\(b.seg a.toNat).n+d<=64/\b.bump a d=(b.upd a.toNat ((b.seg a.toNat).bump d),a*64+(b.seg a.toNat).n,0):=by
 unfold Mem.bump at*;by_cases hk:b.has a
 case neg=>rw[ka hk]at h;exact absurd h (by show ¬((19:Int)=0);decide)
 rw[kb (λf=>f hk)]at h⊢;by_cases c:d<1
 ·rw[ka c]at h;exact absurd h (by show ¬((1:Int)=0);decide)
 rw[kb c]at h⊢;by_cases e:64-(b.seg a.toNat).n<d
 ·rw[ka e]at h;exact absurd h (by show ¬((2:Int)=0);decide)
 rw[kb e]at h⊢;exact⟨hk,GF,GF,rfl⟩
theorem Mem.bump_can(hk:b.has a)(e:1<=d)(f:(b.seg a.toNat).n+d<=64):(b.bump a d).2.2=0:=by
 unfold Mem.bump;rw[kb (λc=>c hk),kb GF,kb GF]
theorem Sp.alloc_ok(m:SpOK i)(h:(i.alloc a d k).2.2=0):SpOK (i.alloc a d k).1/\Grown i.mem (i.alloc a d k).1.mem (i.alloc a d k).2.1 k a d:=by
 have M:=m.mem.lim;unfold Sp.alloc at*;by_cases hm:BP a d k
 case neg=>rw[ka hm]at h;exact absurd h (by show ¬((1:Int)=0);decide)
 rw[kb (λP=>P hm)]at h⊢;have R:=hm.1;have hk:0<=d/\d<=3:=by have:=hm.2;omega
 have hn:1<=k/\k<=63:=by have:=hm.2;omega
 by_cases E:i.cur a.toNat d.toNat≠0/\(i.mem.bump (i.cur a.toNat d.toNat-1) k).2.2=0
 ·rw[ka E]at h⊢;obtain⟨A,N,p,y⟩:=Mem.bump_ok m.mem E.2;rcases m.cur a.toNat d.toNat with r | ⟨I,g,C,D⟩
  ·exact absurd r E.1
  generalize S:i.cur a.toNat d.toNat-1=j at*;have Q:=(m.mem.seg j.toNat).n;have T:=g.1;have w:(j*64+(i.mem.seg j.toNat).n) / 64=j:=GF;have x:(j*64+(i.mem.seg j.toNat).n) % 64=(i.mem.seg j.toNat).n:=GF;have f:=m.mem.bump j k;rw[y]at f⊢;refine⟨?_,?_⟩
  ·refine m.withMem f (λU l=>⟨l.1,l.2.1,?_⟩) (λU=>?_)
   ·rw[E0];by_cases e:U.toNat=j.toNat
    ·rw[ka e];exact g.2.2
    ·rw[kb e];exact l.2.2
   ·rw[E0];by_cases e:U=j.toNat
    ·rw[ka e,e];exact⟨rfl,rfl⟩
    ·rw[kb e];exact⟨rfl,rfl⟩
  ·refine⟨rfl,⟨by show 0<=j*64+(i.mem.seg j.toNat).n;omega,by show(j*64+(i.mem.seg j.toNat).n) / 64<_;rw[w];exact g.2.1,by show(j*64+(i.mem.seg j.toNat).n) % 64+k<=64;rw[x];exact p⟩,?_,?_,?_,?_,by show _<=i.mem.free;omega,by show i.mem.count<=_;omega⟩<;>simp only[w,x]
   ·rw[Fb];exact⟨g.2.2,by rw[show((i.mem.seg j.toNat).bump k).gen=_ from C];omega,by rw[show((i.mem.seg j.toNat).bump k).kind=_ from D];omega,rfl⟩
   ·intro _;rw[Fb];refine⟨by rw[C];omega,by rw[D];omega,?_⟩;first | exact⟨rfl,rfl,rfl,rfl⟩ | exact⟨GB,rfl,rfl,rfl⟩
   ·intro r;exact absurd r g.2.2
   ·intro U l;rw[Fi _ _ l]
 rw[kb E]at h⊢;by_cases u:(i.mem.take a d).2.2=0
 case neg=>rw[kb u]at h;exact absurd h u
 rw[ka u]at h⊢;have n:=m.mem.take a d
 have v:i.mem.take a d=({i.mem with count:=i.mem.count+1,free:=i.mem.free-1}.upd i.mem.first (Seg.new a d (i.mem.count+1)),(i.mem.first:Int),0)/\i.mem.free≠0:=by
  unfold Mem.take at u⊢;rw[kb GF]at u⊢;by_cases p:i.mem.free=0
  ·rw[ka p]at u;exact absurd u (by show ¬((2:Int)=0);decide)
  ·rw[kb p];exact⟨rfl,p⟩
 obtain⟨v,s⟩:=v;obtain⟨O,z⟩:=FY m.mem s;rw[v]at h n⊢;generalize c:({i.mem with count:=i.mem.count+1,free:=i.mem.free-1}:Mem).upd i.mem.first (Seg.new a d (i.mem.count+1))=q at*;simp only at h n⊢;have J:=m.mem.count;have G:q.seg i.mem.first=Seg.new a d (i.mem.count+1):=by rw[<-c,Fb]
 have o: ∀U,U≠i.mem.first->q.seg U=i.mem.seg U:=λU l=>by rw[<-c,Fi _ _ l]
 have t:q.limit=i.mem.limit:=by rw[<-c];rfl
 have L:q.free=i.mem.free-1:=by rw[<-c];rfl
 have K:q.count=i.mem.count+1:=by rw[<-c];rfl
 obtain⟨A,N,p,y⟩:=Mem.bump_ok n h;have H:((i.mem.first:Int)).toNat=i.mem.first:=GF;rw[H,G]at y p;have F:(Seg.new a d (i.mem.count+1)).n=0:=rfl;rw[F]at y p;have f:=n.bump i.mem.first k;rw[y]at f⊢;have w:((i.mem.first:Int)*64+0) / 64=i.mem.first:=GF;have x:((i.mem.first:Int)*64+0) % 64=0:=GF;refine⟨⟨f,λU j=>?_⟩,?_⟩
 ·show(i.setCur a.toNat d.toNat ((i.mem.first:Int)+1)).cur U j=0\/_;simp only[Sp.setCur];by_cases B:U=a.toNat/\j=d.toNat
  ·rw[ka B];refine .inr ⟨GF,⟨GF,by rw[Mem.upd_limit,t];omega,?_⟩,?_,?_⟩
   ·rw[show((i.mem.first:Int)+1-1).toNat=i.mem.first by omega,Fb];show i.mem.count+1≠0;omega
   ·rw[show((i.mem.first:Int)+1-1).toNat=i.mem.first by omega,Fb];show a=_;omega
   ·rw[show((i.mem.first:Int)+1-1).toNat=i.mem.first by omega,Fb];show d=_;omega
  ·rw[kb B];rcases m.cur U j with r | ⟨I,g,C,D⟩
   ·exact .inl r
   ·have b:(i.cur U j-1).toNat≠i.mem.first:=λe=>g.2.2 (by rw[e];exact z);refine .inr ⟨I,⟨g.1,by rw[Mem.upd_limit,t];exact g.2.1,?_⟩,?_,?_⟩
    ·rw[Fi _ _ b,o _ b];exact g.2.2
    ·rw[Fi _ _ b,o _ b];exact C
    ·rw[Fi _ _ b,o _ b];exact D
 ·refine⟨by show q.limit=_;exact t,⟨by show 0<=(i.mem.first:Int)*64+0;omega,by show((i.mem.first:Int)*64+0) / 64<_;rw[w];omega,by show((i.mem.first:Int)*64+0) % 64+k<=64;rw[x];omega⟩,?_,?_,?_,?_,by show _<=q.free;omega,by show q.count<=_;omega⟩<;>simp only[w,x,H]
  ·rw[Fb];exact⟨by show i.mem.count+1≠0;omega,rfl,rfl,rfl⟩
  ·intro r;exact absurd z r
  ·intro _;trivial
  ·intro U l;rw[Fi _ _ l,o _ l]
theorem FB:type_of% @Sp.alloc_ok:=@Sp.alloc_ok
theorem Sp.alloc_can(f:SpOK i)(hm:BP a d k)(l:1<=i.mem.free):(i.alloc a d k).2.2=0:=by
 unfold Sp.alloc;rw[kb (λj=>j hm)];by_cases c:i.cur a.toNat d.toNat≠0/\(i.mem.bump (i.cur a.toNat d.toNat-1) k).2.2=0
 ·rw[ka c]
 rw[kb c];have m:=hm.1;have hk:0<=d/\d<=3:=by have:=hm.2;omega
 have hn:1<=k/\k<=63:=by have:=hm.2;omega
 have e:=f.mem.count
 have b:i.mem.take a d=({i.mem with count:=i.mem.count+1,free:=i.mem.free-1}.upd i.mem.first (Seg.new a d (i.mem.count+1)),(i.mem.first:Int),0):=by
  unfold Mem.take;rw[kb GF,kb GF]
 obtain⟨h,g⟩:=FY f.mem (by omega:i.mem.free≠0);rw[b,ka rfl];refine Mem.bump_can ⟨by show(0:Int)<=(i.mem.first:Int);omega,by show(i.mem.first:Int)< (i.mem.limit:Int);omega,?_⟩ hn.1 ?_
 ·show((Mem.upd _ _ _).seg ((i.mem.first:Int)).toNat).taken≠0;rw[show((i.mem.first:Int)).toNat=i.mem.first by omega,Fb];show i.mem.count+1≠0;omega
 ·show((Mem.upd _ _ _).seg ((i.mem.first:Int)).toNat).n+k<=64;rw[show((i.mem.first:Int)).toNat=i.mem.first by omega,Fb];show 0+k<=64;omega
theorem Sp.alloc_fail(e:SpOK i)(h:(i.alloc a d k).2.2≠0):(i.alloc a d k).1=i:=by
 by_cases hm:BP a d k
 case neg=>unfold Sp.alloc;rw[ka hm]
 by_cases f:i.mem.free=0
 ·have j:=hm.1;have hk:0<=d/\d<=3:=by have:=hm.2;omega
  unfold Sp.alloc at*;rw[kb (λg=>g hm)]at h⊢;by_cases c:i.cur a.toNat d.toNat≠0/\(i.mem.bump (i.cur a.toNat d.toNat-1) k).2.2=0
  ·rw[ka c]at h;exact absurd rfl h
  rw[kb c]at h⊢;have b:i.mem.take a d=(i.mem,0,2):=by unfold Mem.take;rw[kb GF,ka f]
  rw[b,kb (by decide: ¬((2:Int)=0))]
 ·have:0<=i.mem.free:=by rw[e.mem.free];omega
  exact absurd (Sp.alloc_can e hm GF) h
def Mem.sets(m:Mem)(a:Int):List Int->Mem
 | []=>m
 | w::ws=>(if m.used a then m.set a w else m).sets (a+1) ws
theorem Mem.sets_snoc: ∀(b:List Int) (m:Mem) (a w:Int),m.sets a (b++[w])=if(m.sets a b).used (a+b.length)then(m.sets a b).set (a+b.length) w else m.sets a b
 | [],m,a,w=>by simp[Mem.sets]
 | u::b,m,a,w=>by
  simp only[List.cons_append,Mem.sets,List.length_cons];rw[Mem.sets_snoc b,show a+1+(b.length:Int)=a+((b.length+1:Nat):Int)by omega];rfl
theorem bP.sets: ∀(ws:List Int) {m:Mem} (b:bP m) (a:Int),(∀w∈ws,aO w)->bP (m.sets a ws)
 | [],m,b,a,_=>b
 | w::ws,m,b,a,h=>by
  simp only[Mem.sets];refine bP.sets ws ?_ _ (λu c=>h u (FF _ c));split
  ·exact b.set a (h w FT)
  ·exact b
structure bQ (m m':Mem):Prop where
 limit:m'.limit=m.limit
 seg: ∀j,(m'.seg j).gen=(m.seg j).gen/\(m'.seg j).kind=(m.seg j).kind/\(m'.seg j).n=(m.seg j).n/\(m'.seg j).taken=(m.seg j).taken/\(m'.seg j).cards=(m.seg j).cards
 free:m'.free=m.free
 count:m'.count=m.count
theorem bQ.refl(m:Mem):bQ m m:=⟨rfl,λ_=>⟨rfl,rfl,rfl,rfl,rfl⟩,rfl,rfl⟩
theorem bQ.trans{a b c:Mem}(h:bQ a b)(k:bQ b c):bQ a c:=
 ⟨k.limit.trans h.limit,λj=>⟨(k.seg j).1.trans (h.seg j).1,(k.seg j).2.1.trans (h.seg j).2.1,(k.seg j).2.2.1.trans (h.seg j).2.2.1,(k.seg j).2.2.2.1.trans (h.seg j).2.2.2.1,(k.seg j).2.2.2.2.trans (h.seg j).2.2.2.2⟩,k.free.trans h.free,k.count.trans h.count⟩
theorem bQ.set(m:Mem)(a w:Int):bQ m (m.set a w):=⟨rfl,λj=>by
 unfold Mem.set;rw[E0];by_cases h:j=(a / 64).toNat
 ·rw[ka h,h];exact⟨rfl,rfl,rfl,rfl,rfl⟩
 ·rw[kb h];exact⟨rfl,rfl,rfl,rfl,rfl⟩,rfl,rfl⟩
theorem bQ.sets: ∀(ws:List Int) (m:Mem) (a:Int),bQ m (m.sets a ws)
 | [],m,a=>bQ.refl m
 | w::ws,m,a=>by
  simp only[Mem.sets];refine bQ.trans ?_ (bQ.sets ws _ _);split
  ·exact bQ.set m a w
  ·exact bQ.refl m
theorem bQ.has{a:Mem}(h:bQ b a){k:Int}:a.has k ↔ b.has k:=by
 unfold Mem.has;rw[h.limit,(h.seg _).2.2.2.1]
theorem bQ.used{m b:Mem}(h:bQ m b):b.used a ↔ m.used a:=by
 unfold Mem.used;rw[h.has,(h.seg _).2.2.1]
theorem Mem.set_get{m:Mem}(x:Int)(g:0<=x)(f:0<=a):(m.set a d).get x=if x=a then d else m.get x:=by
 unfold Mem.get Mem.set;rw[E0];by_cases b:(x / 64).toNat=(a / 64).toNat
 ·rw[ka b];simp only[Seg.set];by_cases c:(x % 64).toNat=(a % 64).toNat
  ·rw[ka c,ka GF]
  ·rw[kb c,kb (by intro e;subst e;exact c rfl),b]
 ·rw[kb b,kb (by intro e;subst e;exact b rfl)]
theorem Fv:type_of% @Mem.set_get:=@Mem.set_get
theorem Mem.sets_get: ∀(b:List Int) {m:Mem} {a:Int} (x:Int),0<=x->0<=a->(∀i:Nat,i<b.length->m.used (a+i))->(m.sets a b).get x=if a<=x/\x<a+b.length then b.getD (x-a).toNat 0 else m.get x
 | [],m,a,x,hx,ha,hu=>by simp only[Mem.sets];rw[kb (by simp only[List.length_nil];omega)]
 | w::b,m,a,x,hx,ha,hu=>by
  have e:m.used a:=by have:=hu 0 GH;simpa using this
  simp only[Mem.sets];rw[ka e,Mem.sets_get b x hx GF (λi f=>(bQ.set m a w).used.2 (by have:=hu (i+1) (by simp;omega);rw[show a+1+(i:Int)=a+((i+1:Nat):Int)by omega];exact this))];rw[Fv x hx ha];by_cases c:x=a
  ·subst c;rw[kb GF,ka rfl,ka ⟨GF,by simp;omega⟩];simp
  ·by_cases d:a+1<=x/\x<a+1+b.length
   ·rw[ka d,ka ⟨GF,by simp;omega⟩];have:(x-a).toNat=(x-(a+1)).toNat+1:=GF;rw[this];simp
   ·rw[kb d,kb c,kb (by simp;omega)]
def kV(tag addr:Int):Int×Int:=if ¬(tag=1\/tag=2\/tag=3\/tag=6)then(0,1)else if 0<=addr/\addr<65536 then(addr*8+tag,0)else(0,18)
def Sp.put(s:Sp)(kind tag:Int)(ws:List Int):Sp×Int×Int:=
 if(s.alloc 0 kind ws.length).2.2=0 then({(s.alloc 0 kind ws.length).1 with mem:=(s.alloc 0 kind ws.length).1.mem.sets (s.alloc 0 kind ws.length).2.1 ws},kV tag (s.alloc 0 kind ws.length).2.1)
 else(s,0,(s.alloc 0 kind ws.length).2.2)
def BV(o:Option (Blk×Hp))(kind tag:Int)(ws:List Int):Option (Blk×Hp):=
 match o with
 | none=>none
 | some (b,x)=>some (b,{x with sp:=(x.sp.put kind tag ws).1})
def BG(o:Option (Blk×Hp))(kind tag:Int)(ws:List Int):Int×Int:=
 match o with
 | none=>(0,2)
 | some (_,x)=>(x.sp.put kind tag ws).2
def uf(o:Option (Blk×Hp)):Prop:=(nc o).count<4611686018427387904
theorem SpOK.sets(b:SpOK i)(a:Int){ws:List Int}(c: ∀w∈ws,aO w):SpOK {i with mem:=i.mem.sets a ws}:=
 b.withMem (bP.sets ws b.mem a c) (λk h=>(bQ.sets ws i.mem a).has.2 h) (λk=>⟨((bQ.sets ws i.mem a).seg k).1,((bQ.sets ws i.mem a).seg k).2.1⟩)
theorem sd{u:zW}{ws:List Int}(V:View H j o)(c:bV H u (Bi ws))(E:g=ws.length)(hw: ∀w∈ws,aO w)
  (hd: ∀i,i∈l6 u->i ∉ own o) (hc:uf o) (ht:BT d) (hl:ws.length<=1000):
  gz.C j a d u g q H (λv y=>v=.tuple #[vu (BG o a d ws).1,vi (BG o a d ws).2]/\View y j (BV o a d ws)/\Fr (own o) H y):=by
 subst E;refine Ei λR s=>gz.link ?_;unfold gz.pt zY;refine gc (nJ V) ?_;rintro _ U ⟨rfl,rfl⟩;refine⟨_,rfl,?_⟩
 cases V with
 | nobody=>rw[ka (show(none:Option (Blk×Hp)).isNone=true from rfl)];exact s _ _ ⟨rfl,.nobody,Ey _ _⟩
 | empty h=>rw[ka (show(none:Option (Blk×Hp)).isNone=true from rfl)];exact s _ _ ⟨rfl,.empty h,Ey _ _⟩
 | @real b x h G=>
  rw[kb (show ¬(some (b,x)).isNone=true from Bool.false_ne_true)];refine⟨_,rfl,_,h.hPtr,_,rfl,_,h.cd.cPtr,?_⟩;refine gc (nw h.cd.sp G hc) ?_;rintro _ H2 ⟨rfl,P,Y⟩;refine⟨_,_,rfl,?_⟩;have f:=h.withSp Y (λi B=>by simp at B;omega) P;have A:Fr (own (some (b,x))) U H2:=Y.mono (λi B _=>by simp at B;simp[own];omega);by_cases t:(x.sp.alloc 0 a ws.length).2.2=0
  case neg=>
   rw[kb t];have e:x.sp.put a d ws=(x.sp,0,(x.sp.alloc 0 a ws.length).2.2):=by unfold Sp.put;rw[kb t]
   have J:BG (some (b,x)) a d ws=(0,(x.sp.alloc 0 a ws.length).2.2):=by show(x.sp.put a d ws).2=_;rw[e]
   have K:BV (some (b,x)) a d ws=some (b,x):=by show some (b,{x with sp:=(x.sp.put a d ws).1})=_;rw[e]
   rw[J,K]at s;rw[Sp.alloc_fail G t]at f;exact s _ _ ⟨rfl,.real f G,A⟩
  rw[ka t];obtain⟨I,gr⟩:=FB G t;have e:x.sp.put a d ws=({(x.sp.alloc 0 a ws.length).1 with mem:=(x.sp.alloc 0 a ws.length).1.mem.sets (x.sp.alloc 0 a ws.length).2.1 ws},kV d (x.sp.alloc 0 a ws.length).2.1):=by unfold Sp.put;rw[ka t]
  have J:BG (some (b,x)) a d ws=kV d (x.sp.alloc 0 a ws.length).2.1:=by show(x.sp.put a d ws).2=_;rw[e]
  have K:BV (some (b,x)) a d ws=some (b,{x with sp:={(x.sp.alloc 0 a ws.length).1 with mem:=(x.sp.alloc 0 a ws.length).1.mem.sets (x.sp.alloc 0 a ws.length).2.1 ws}}):=by show some (b,{x with sp:=(x.sp.put a d ws).1})=_;rw[e]
  rw[J,K]at s;generalize ab:(x.sp.alloc 0 a ws.length).1=T at*;generalize a8:(x.sp.alloc 0 a ws.length).2.1=ai at*;have a0:=G.mem.lim;have ag:=gr.addr;refine⟨λi y=>(0<=i/\i<=ws.length)/\HpAt y b {x with sp:={T with mem:=T.mem.sets ai (ws.take i.toNat)}}/\Fr (own (some (b,x))) U y,λi _=>(ws.length-i).toNat,⟨GF,by simpa[Mem.sets]using f,A⟩,?_⟩;rintro i W ⟨B,k,L⟩;by_cases m:i< (ws.length:Int)
  ·rw[ka m];have D:i.toNat<ws.length:=GF
   have p:bV W u (Bi ws):=by
    cases u with
    | none=>exact c
    | some S=>exact L.rowAt (hd _ GH) c
   cases u with
   | none=>
    exfalso;have e:Bi ws=[]:=c;have:ws.length=0:=by simpa[Bi]using congrArg List.length e
    omega
   | some S=>
    refine⟨S,rfl,⟨B.1,m⟩,ws[i.toNat],?_,?_⟩
    ·have:=gM (show aI W S 0 (Bi ws)from p) i.toNat (vu (ws[i.toNat])) (by simp[Bi,D]);rw[EG];rw[Eo]at this;exact this
    refine⟨_,k.hPtr,_,rfl,_,k.cd.cPtr,_,rfl,_,k.cd.sp.memPtr,?_⟩;have F:bP (T.mem.sets ai (ws.take i.toNat)):=bP.sets _ I.mem ai (λw Q=>hw w (FR Q));rw[n5 (n:=ai+i) GF,n5 (n:=i+1) GF];refine gc (kg k.cd.sp.mem F GF) ?_;rintro _ H4 ⟨rfl,O,Z⟩;refine⟨_,rfl,⟨GF,?_,L.trans (Z.mono (λaj N _=>by simp at N;simp[own];omega))⟩,by show((ws.length:Int)-(i+1)).toNat< ((ws.length:Int)-i).toNat;omega⟩;have h4:=k.withMem Z (λaj N=>by simp at N;omega) O
    have et:ws.take (i+1).toNat=ws.take i.toNat++[ws[i.toNat]]:=by
     rw[show(i+1).toNat=i.toNat+1 by omega,EL D]
    have el:((ws.take i.toNat).length:Int)=i:=by rw[E6];omega
    rw[et,Mem.sets_snoc,el];exact h4
  ·rw[kb m];have M:i.toNat=ws.length:=GF;rw[M,Fq]at k;refine gc (ni ht GF) ?_;rintro _ H5 ⟨rfl,X⟩
   have ev:(if ¬(d=1\/d=2\/d=3\/d=6)then Value.tuple #[vu 0,vi 1]else if 0<=ai/\ai<65536 then .tuple #[vu (ai*8+d),vi 0]else .tuple #[vu 0,vi 18])=.tuple #[vu (kV d ai).1,vi (kV d ai).2]:=by
    by_cases r:d=1\/d=2\/d=3\/d=6
    ·by_cases f:0<=ai/\ai<65536
     ·have z:kV d ai=(ai*8+d,0):=by unfold kV;rw[kb (λl=>l r),ka f]
      rw[z,kb (λl=>l r),ka f]
     ·have z:kV d ai=(0,18):=by unfold kV;rw[kb (λl=>l r),kb f]
      rw[z,kb (λl=>l r),kb f]
    ·have z:kV d ai=(0,1):=by unfold kV;rw[ka r]
     rw[z,ka r]
   rw[ev];exact⟨_,_,rfl,s _ _ ⟨rfl,.real (k.ext X) (I.sets ai hw),L.trans X.fr⟩⟩
def Sp.make(s:Sp)(kind more:Int)(ws:List Int):Sp×Int×Int:=
 if ¬((1<=kind/\kind<=13)/\more<281474976710656)then(s,0,1)
 else if 62<ws.length then(s,0,6)
 else s.put (oN kind) 3 ((more*65536+ws.length*256+kind*8+5)::ws)
def js(o:Option (Blk×Hp))(kind more:Int)(ws:List Int):Option (Blk×Hp):=
 if ¬((1<=kind/\kind<=13)/\more<281474976710656)then o
 else if 62<ws.length then o
 else BV o (oN kind) 3 ((more*65536+ws.length*256+kind*8+5)::ws)
def iT(o:Option (Blk×Hp))(kind more:Int)(ws:List Int):Int×Int:=
 if ¬((1<=kind/\kind<=13)/\more<281474976710656)then(0,1)
 else if 62<ws.length then(0,6)
 else BG o (oN kind) 3 ((more*65536+ws.length*256+kind*8+5)::ws)
theorem View.own_lt(V:View H j o): ∀i,i∈own o->i<H.size:=by
 cases V with
 | nobody=>intro i a;simp[own]at a
 | empty h=>intro i a;simp[own]at a
 | real h b=>intro i a;exact h.lt i (by simp[own]at a;simp[Blk.all];omega)
theorem mi{z:zW}{kind more:Int}{ws:List Int}(V:View H j o)(b:bV H z (Bi ws))(x:g=ws.length)(T: ∀w∈ws,aO w)
  (hk:BT kind) (m:aO more) (Q:uf o) (hl:ws.length<=1000000):
  dO.C j kind more z g q H (λv G=>v=.tuple #[vu (iT o kind more ws).1,vi (iT o kind more ws).2]/\View G j (js o kind more ws)/\Fr (own o) H G):=by
 subst x;refine Ei λR r=>dO.link ?_;unfold dO.pt;refine gc (nu hk GG m) ?_;rintro _ W ⟨rfl,s⟩;rw[tX];refine⟨_,_,rfl,?_⟩;by_cases a:(1<=kind/\kind<=13)/\more<281474976710656
 case neg=>
  have k: ¬((1<=kind/\kind<=13)/\((0:Int)<=0/\(0:Int)<=62)/\more<281474976710656):=λh=>a ⟨h.1,h.2.2⟩;rw[kb k,kb GG];have e:iT o kind more ws=(0,1):=by unfold iT;rw[ka a]
  have f:js o kind more ws=o:=by unfold js;rw[ka a]
  rw[e,f]at r;exact r _ _ ⟨rfl,V.ext s,s.fr⟩
 have k:(1<=kind/\kind<=13)/\((0:Int)<=0/\(0:Int)<=62)/\more<281474976710656:=⟨a.1,GG,a.2⟩;rw[ka k,ka rfl];by_cases y:62<ws.length
 ·rw[ka GF];have e:iT o kind more ws=(0,6):=by unfold iT;rw[kb (λl=>l a),ka y]
  have f:js o kind more ws=o:=by unfold js;rw[kb (λl=>l a),ka y]
  rw[e,f]at r;exact r _ _ ⟨rfl,V.ext s,s.fr⟩
 rw[kb GF];refine gc (nu hk GF m) ?_;rintro _ X ⟨rfl,f⟩;rw[tX];refine⟨_,_,rfl,?_⟩;have A:(1<=kind/\kind<=13)/\((0:Int)<=(ws.length:Int)/\(ws.length:Int)<=62)/\more<281474976710656:=⟨a.1,GF,a.2⟩;rw[ka A];refine gc rY ?_;rintro _ Y ⟨rfl,rfl⟩;refine⟨_,rfl,?_⟩;intro b4 J B u;have c:=s.trans f;have d:=c.trans (Eh u);have P:=aK B u;have S:=m.1
 have n:bV J z (Bi ws):=by
  cases z with
  | none=>exact b
  | some la=>exact d.rowAt b
 refine dE (ys:=Bi ws) (xs:=[vu (more*65536+ws.length*256+kind*8+5)]) ⟨rfl,_,P,rfl,Er _,rfl,λa9 hj=>?_⟩ n (by simp[Bi]) (j3 ws) rfl GF ?_
 ·have:a9=0:=GF;subst this;rfl
 intro p5 c5 K U N D;have t:Ext H K:=d.fr_trans N (λi E=>by simp at E;have:=c.size;omega);have L:=V.ext t;refine gc (sd (ws:=(more*65536+ws.length*256+kind*8+5)::ws) L U.src (by simp;omega) (λw p=>?_) (λi E F=>?_) Q GG (by simp;omega)) ?_
 ·rcases Ew.1 p with rfl | p
  ·exact⟨GF,GF⟩
  ·exact T w p
 ·have h6:=V.own_lt i F;have h7:=d.size;have h8:=c.size;rcases D i E with I | I
  ·simp at I;omega
  ·omega
 rintro _ Z ⟨rfl,M,O⟩;refine⟨_,_,rfl,?_⟩;have e:iT o kind more ws=BG o (oN kind) 3 ((more*65536+ws.length*256+kind*8+5)::ws):=by unfold iT;rw[kb (λl=>l a),kb y]
 have f:js o kind more ws=BV o (oN kind) 3 ((more*65536+ws.length*256+kind*8+5)::ws):=by unfold js;rw[kb (λl=>l a),kb y]
 rw[e,f]at r;exact r _ _ ⟨rfl,M,t.fr.trans O⟩
def Sp.cf(s:Sp):Int:=s.mem.count+s.mem.free
theorem Sp.cf_count(a:SpOK i)(h:i.cf<4611686018427387904):i.mem.count<4611686018427387904:=by
 have:=a.mem.free;unfold Sp.cf at h;omega
theorem Mem.take_cf(m:Mem)(g k:Int):(m.take g k).1.count+(m.take g k).1.free=m.count+m.free:=by
 unfold Mem.take;split
 ·rfl
 split
 ·rfl
 ·show m.count+1+(m.free-1)=_;omega
theorem Sp.alloc_cf(s:Sp)(g k n:Int):(s.alloc g k n).1.cf=s.cf:=by
 unfold Sp.alloc Sp.cf;split
 ·rfl
 split
 ·show(s.mem.bump _ _).1.count+(s.mem.bump _ _).1.free=_;rw[(FX _ _ _).2.1,(FX _ _ _).2.2]
 split
 ·show((s.mem.take g k).1.bump _ _).1.count+((s.mem.take g k).1.bump _ _).1.free=_;rw[(FX _ _ _).2.1,(FX _ _ _).2.2];exact Mem.take_cf _ _ _
 ·rfl
structure Keep (m m':Mem):Prop where
 limit:m'.limit=m.limit
 used: ∀a,m.used a->m'.used a/\m'.get a=m.get a/\(m'.seg (a / 64).toNat).kind=(m.seg (a / 64).toNat).kind/\(m'.seg (a / 64).toNat).gen=(m.seg (a / 64).toNat).gen/\(m.seg (a / 64).toNat).n<=(m'.seg (a / 64).toNat).n
theorem Keep.refl(m:Mem):Keep m m:=⟨rfl,λa h=>⟨h,rfl,rfl,rfl,EN _⟩⟩
theorem Keep.trans{a b c:Mem}(h:Keep a b)(k:Keep b c):Keep a c:=
 ⟨k.limit.trans h.limit,λx j=>by
  obtain⟨d,e,f,g,i⟩:=h.used x j;obtain⟨l,m,n,o,p⟩:=k.used x d;exact⟨l,m.trans e,n.trans f,o.trans g,Gg i p⟩⟩
structure fC (m:Mem) (w kind more:Int) (ws:List Int):Prop where
 word:aO w
 obj:m.isObj w
 kindEq:hk (m.get (w / 8))=kind
 lenEq:hn (m.get (w / 8))=ws.length
 moreEq:hm (m.get (w / 8))=more
 get: ∀(i:Nat) (h:i<ws.length),m.get (w / 8+1+i)=ws[i]
theorem fC.typ{m:Mem}{w a b:Int}(h:fC m w a b v):m.typ w=a:=by unfold Mem.typ;rw[ka h.obj];exact h.kindEq
theorem fC.len(h:fC b a d k v):b.len a=v.length:=by unfold Mem.len;rw[ka h.obj];exact h.lenEq
theorem fC.more'(h:fC b a d k v):b.more a=k:=by unfold Mem.more;rw[ka h.obj];exact h.moreEq
theorem fC.field_in(h:fC b a d k v)(e:0<=x/\x<v.length):b.fieldE a d x=0:=by
 unfold Mem.fieldE;rw[kb (λc=>c.elim (λq=>q h.obj) (λq=>q h.typ)),kb (by rw[h.len];omega)]
theorem ug(h: ¬b.isObj a):b.typ a=0:=by unfold Mem.typ;rw[kb h]
theorem As(h: ¬a % 8=3): ¬b.isObj a:=λc=>h c.1.2.1
theorem fC.usedHead(h:fC b a d k v):b.used (a / 8):=h.obj.1.used h.word
theorem fC.usedAt(h:fC b a d k v)(hn: ∀e,(b.seg e).n<=64){i:Nat}(c:i<v.length):b.used (a / 8+1+i):=
 h.obj.used h.word (hn _) ⟨GF,by rw[h.len];omega⟩
theorem fC.keep{g:Mem}(h:fC b a d x v)(hn: ∀k,(b.seg k).n<=64)(k:Keep b g):fC g a d x v:=by
 obtain⟨j,c,l,_,m⟩:=k.used _ h.usedHead;have e:=h.obj;refine⟨h.word,⟨⟨e.1.1,e.1.2.1,j.2.1,?_,j.2.2⟩,by rw[c];exact e.2.1,?_⟩,by rw[c];exact h.kindEq,by rw[c];exact h.lenEq,by rw[c];exact h.moreEq,λi f=>?_⟩
 ·rw[l,c];exact e.1.2.2.2.1
 ·rw[c];have:=e.2.2;omega
 ·rw[(k.used _ (h.usedAt hn f)).2.1];exact h.get i f
theorem Grown.lay{m h:Mem}{a g k:Int}(c:Grown m h a v.length g k)(G:bP m):Keep m (h.sets a v)/\(∀x,0<=x->(h.sets a v).get x=if a<=x/\x<a+v.length then v.getD (x-a).toNat 0 else h.get x)/\(∀i:Nat,i<v.length->(h.sets a v).used (a+i)):=by
 have l:=bQ.sets v h a;obtain⟨u,w,E⟩:=c.addr
 have s: ∀i:Nat,i<v.length->h.used (a+i):=λi q=>by
  have p:(a+i) / 64=a / 64:=GF;have y:(a+i) % 64=a % 64+i:=GF;refine⟨GF,?_,?_⟩
  ·rw[p];exact⟨GF,by rw[c.limit];exact w,c.new.1⟩
  ·rw[p,y,c.new.2.2.2];omega
 have d:=λx (e:0<=x)=>Mem.sets_get v (m:=h) (a:=a) x e u s;refine⟨⟨l.limit.trans c.limit,λx e=>?_⟩,d,λi q=>l.used.2 (s i q)⟩;have n:=e.1;have b:=l.seg (x / 64).toNat;by_cases f:(x / 64).toNat=(a / 64).toNat
 ·have r:(m.seg (a / 64).toNat).taken≠0:=by rw[<-f];exact e.2.1.2.2
  obtain⟨A,B,t,C,F,D⟩:=c.old r;have o:=e.2.2;rw[f,t]at o;have z:x<a:=GF;refine⟨l.used.2 ⟨n,⟨e.2.1.1,by rw[c.limit];exact e.2.1.2.1,by rw[f,D];exact r⟩,by rw[f,c.new.2.2.2];omega⟩,?_,?_,?_,?_⟩
  ·rw[d x n,kb GF];unfold Mem.get;rw[f,C]
  ·rw[b.2.1,f,c.new.2.2.1,B]
  ·rw[b.1,f,c.new.2.1,A]
  ·rw[b.2.2.1,f,c.new.2.2.2,t];omega
 ·have j:=c.others _ f;refine⟨l.used.2 ⟨n,⟨e.2.1.1,by rw[c.limit];exact e.2.1.2.1,by rw[j];exact e.2.1.2.2⟩,by rw[j];exact e.2.2⟩,?_,?_,?_,?_⟩
  ·rw[d x n,kb GF];unfold Mem.get;rw[j]
  ·rw[b.2.1,j]
  ·rw[b.1,j]
  ·rw[b.2.2.1,j];omega
theorem Sp.put_ok(f:SpOK i){b tag:Int}(hm:BP 0 b v.length)(h:tag=1\/tag=2\/tag=3\/tag=6)(j: ∀w∈v,aO w)(c:(i.alloc 0 b v.length).2.2=0):
  ∃a:Int,(i.put b tag v).2=(a*8+tag,0)/\Grown i.mem (i.alloc 0 b v.length).1.mem a v.length 0 b/\(i.put b tag v).1.mem=(i.alloc 0 b v.length).1.mem.sets a v/\SpOK (i.put b tag v).1/\a<65536/\(i.put b tag v).1.cur=(i.alloc 0 b v.length).1.cur:=by
 obtain⟨d,e⟩:=FB f c;have n:=f.mem.lim;obtain⟨k,l,m⟩:=e.addr;refine⟨(i.alloc 0 b v.length).2.1,?_,e,?_,?_,GF,?_⟩
 ·unfold Sp.put;rw[ka c];unfold kV;rw[kb (λg=>g h),ka GF]
 ·unfold Sp.put;rw[ka c]
 ·unfold Sp.put;rw[ka c];exact d.sets _ j
 ·unfold Sp.put;rw[ka c]
structure Made (m m':Mem) (w:Int) (n:Nat):Prop where
 keep:Keep m m'
 free:m.free-1<=m'.free
 count:m'.count<=m.count+1
 fresh: ∀i:Nat,i<=n-> ¬m.used (w / 8+i)
theorem qp{kind more:Int}{n:Nat}(b:1<=kind/\kind<=13)(c:0<=more/\more<281474976710656)(a:n<=62):
  kA (more*65536+n*256+kind*8+5)/\hk (more*65536+n*256+kind*8+5)=kind/\hn (more*65536+n*256+kind*8+5)=n/\hm (more*65536+n*256+kind*8+5)=more:=by
 unfold kA hk hn hm;refine⟨⟨GF,GF⟩,GF,GF,GF⟩
theorem Sp.make_ok0(D:SpOK i)(o:1<=a/\a<=13)(q:0<=d/\d<281474976710656)(K:v.length<=62)(L: ∀w∈v,aO w)(h:(i.alloc 0 (oN a) ((v.length+1:Nat):Int)).2.2=0):
  (i.make a d v).2.2=0/\fC (i.make a d v).1.mem (i.make a d v).2.1 a d v/\SpOK (i.make a d v).1/\Made i.mem (i.make a d v).1.mem (i.make a d v).2.1 v.length:=by
 have r:oN a=2\/oN a=3:=by unfold oN;split<;>omega
 generalize n:d*65536+v.length*256+a*8+5=c;have b:=qp o q K;rw[n]at b;have y:aO c:=⟨GF,GF⟩
 have H:i.make a d v=i.put (oN a) 3 (c::v):=by
  unfold Sp.make;rw[kb (by intro J;exact J ⟨o,q.2⟩),kb GF,n]
 rw[H]
 have m: ∀w∈c::v,aO w:=λw l=>by
  rcases Ew.1 l with rfl | l
  ·exact y
  ·exact L w l
 have p:BP 0 (oN a) ((c::v).length:Nat):=⟨GF,.inr ⟨r,by simp;omega,by simp;omega⟩⟩;have h:(i.alloc 0 (oN a) ((c::v).length:Nat)).2.2=0:=h;obtain⟨P,s,g,x,z,G,_⟩:=Sp.put_ok (tag:=3) D p GF m h;obtain⟨M,f,k⟩:=g.lay D.mem;rw[s,x];obtain⟨E,N,F⟩:=g.addr;have u:=bQ.sets (c::v) (i.alloc 0 (oN a) ((c::v).length:Nat)).1.mem P;simp only[List.length_cons]at F;have e:(P*8+3) / 8=P:=GF
 have t:((i.alloc 0 (oN a) ((c::v).length:Nat)).1.mem.sets P (c::v)).get P=c:=by
  rw[f P E,ka ⟨GF,by simp;omega⟩];simp
 have j:=k 0 GH;rw[show P+((0:Nat):Int)=P by omega]at j;refine⟨rfl,⟨⟨GF,GF⟩,?_,?_,?_,?_,λQ B=>?_⟩,z,⟨M,?_,?_,?_⟩⟩
 ·unfold Mem.isObj;rw[e,t,b.2.1,b.2.2.1];refine⟨⟨⟨GF,GF⟩,GF,?_,?_,?_⟩,b.1,?_⟩
  ·rw[e];exact j.2.1
  ·rw[e,(u.seg _).2.1,g.new.2.2.1]
  ·rw[e];exact j.2.2
  ·rw[(u.seg _).2.2.1,g.new.2.2.2];simp;omega
 ·rw[e,t];exact b.2.1
 ·rw[e,t];exact b.2.2.1
 ·rw[e,t];exact b.2.2.2
 ·rw[e,f _ GF,ka ⟨GF,by simp;omega⟩];rw[show(P+1+(Q:Int)-P).toNat=Q+1 by omega];simp[B]
 ·rw[u.free];exact g.free
 ·rw[u.count];exact g.count
 ·rw[e];intro Q B C;have s:(P+Q) / 64=P / 64:=GF;have x:(P+Q) % 64=P % 64+Q:=GF;by_cases A:(i.mem.seg (P / 64).toNat).taken=0
  ·have:=C.2.1.2.2;rw[s]at this;exact this A
  ·have O:=(g.old A).2.2.1;have I:=C.2.2;rw[s,x]at I;omega
theorem Sp.make_ok(e:SpOK i)(b:1<=a/\a<=13)(c:0<=d/\d<281474976710656)(g:v.length<=62)(h: ∀w∈v,aO w)(f:1<=i.mem.free):
  (i.make a d v).2.2=0/\fC (i.make a d v).1.mem (i.make a d v).2.1 a d v/\SpOK (i.make a d v).1/\Made i.mem (i.make a d v).1.mem (i.make a d v).2.1 v.length:=
 Sp.make_ok0 e b c g h (Sp.alloc_can e ⟨GF,.inr ⟨by unfold oN;split<;>omega,GF,GF⟩⟩ f)
theorem Sp.make_no(h:SpOK i){kind more:Int}{ws:List Int}(c:1<=kind/\kind<=13)(d:0<=more/\more<281474976710656)(g:ws.length<=62)(a:(i.alloc 0 (oN kind) ((ws.length+1:Nat):Int)).2.2≠0):(i.make kind more ws).1=i/\(i.make kind more ws).2.2≠0:=by
 have e:i.make kind more ws=i.put (oN kind) 3 ((more*65536+ws.length*256+kind*8+5)::ws):=by
  unfold Sp.make;rw[kb (by intro f;exact f ⟨c,d.2⟩),kb GF]
 have b: ¬(i.alloc 0 (oN kind) (((more*65536+ws.length*256+kind*8+5)::ws).length:Nat)).2.2=0:=a;rw[e];unfold Sp.put;rw[kb b];exact⟨rfl,a⟩
theorem Mem.store_get{m:Mem}(b:m.used a)(x:Int)(c:0<=x):(m.store a d).1.get x=if x=a then d else m.get x:=by
 have e:m.store a d=(m.set a d).mark (a / 64) (a % 64 / 16) ((m.set a d).younger ((m.set a d).seg (a / 64).toNat) d (((m.set a d).seg (a / 64).toNat).cards (a % 64 / 16).toNat)):=by unfold Mem.store;rw[ka b]
 rw[e,<-Fv (m:=m) x c b.1];unfold Mem.get;rw[(Mem.mark_seg _).2.2.2]
theorem Fk:type_of% @Mem.store_get:=@Mem.store_get
theorem Mem.mark_lim:(b.mark a d k).1.limit=b.limit/\(b.mark a d k).1.free=b.free/\(b.mark a d k).1.count=b.count:=by
 unfold Mem.mark;split
 ·exact⟨rfl,rfl,rfl⟩
 split
 ·exact⟨rfl,rfl,rfl⟩
 ·exact⟨rfl,rfl,rfl⟩
theorem Mem.store_lim:(b.store a d).1.limit=b.limit/\(b.store a d).1.free=b.free/\(b.store a d).1.count=b.count:=by
 unfold Mem.store;split
 ·exact Mem.mark_lim
 ·exact⟨rfl,rfl,rfl⟩
theorem Mem.store_used:(b.store a d).1.used k ↔ b.used k:=by
 unfold Mem.used;rw[FJ,(EP _).2.2]
theorem FO:type_of% @Mem.store_used:=@Mem.store_used
theorem bP.genOf(a:bP b)(w:Int):0<=(b.genOf w).1:=by
 unfold Mem.genOf;split
 ·simp only;split
  ·exact(a.seg _).gen.1
  ·exact EN _
 ·exact EN _
def Sep(w:Int)(n:Nat)(w':Int)(n':Nat):Prop:= ∀i j:Nat,i<=n->j<=n'->w / 8+i≠w' / 8+j
theorem Sep.symm(h:Sep a g d q):Sep d q a g:=λi j b c e=>h j i c b e.symm
theorem fC.set{m:Mem}{w a b v:Int}{i:List Int}(h:fC m w a b i)(q:bP m)(p:g<i.length):fC (m.store (w / 8+1+g) v).1 w a b (i.set g v):=by
 have f: ∀k,(m.seg k).n<=64:=λk=>(q.seg k).n.2;have o:=h.usedAt f p;have r:0<=w / 8:=by have:=h.word.1;omega
 have c:=h.obj;have d:(m.store (w / 8+1+g) v).1.get (w / 8)=m.get (w / 8):=by rw[Fk o _ r,kb GF]
 refine⟨h.word,⟨⟨c.1.1,c.1.2.1,FJ.2 c.1.2.2.1,?_,?_⟩,by rw[d];exact c.2.1,?_⟩,by rw[d];exact h.kindEq,by rw[d,List.length_set];exact h.lenEq,by rw[d];exact h.moreEq,λj l=>?_⟩
 ·rw[d,(EP _).2.1];exact c.1.2.2.2.1
 ·rw[(EP _).2.2];exact c.1.2.2.2.2
 ·rw[d,(EP _).2.2];exact c.2.2
 ·rw[List.length_set]at l;rw[Fk o _ GF,List.getElem_set];by_cases e:g=j
  ·subst e;rw[ka rfl,ka rfl]
  ·rw[kb GF,kb e];exact h.get j l
theorem fC.setOther{e f z:Int}{i:List Int}(h:fC b a d k v)(r:fC b x e f i)(u:bP b)(s:g<i.length)(t:Sep a v.length x i.length):fC (b.store (x / 8+1+g) z).1 a d k v:=by
 have p: ∀j:Nat,j<=v.length->a / 8+j≠x / 8+1+g:=λj o=>by have:=t j (g+1) o GF;omega
 have m: ∀y,(b.seg y).n<=64:=λy=>(u.seg y).n.2;have q:=r.usedAt m s;have w:0<=a / 8:=by have:=h.word.1;omega
 have c:=h.obj
 have l:(b.store (x / 8+1+g) z).1.get (a / 8)=b.get (a / 8):=by
  rw[Fk q _ w,kb (by have:=p 0 GF;simpa using this)]
 refine⟨h.word,⟨⟨c.1.1,c.1.2.1,FJ.2 c.1.2.2.1,?_,?_⟩,by rw[l];exact c.2.1,?_⟩,by rw[l];exact h.kindEq,by rw[l];exact h.lenEq,by rw[l];exact h.moreEq,λj o=>?_⟩
 ·rw[l,(EP _).2.1];exact c.1.2.2.2.1
 ·rw[(EP _).2.2];exact c.1.2.2.2.2
 ·rw[l,(EP _).2.2];exact c.2.2
 ·rw[Fk q _ GF,kb (by have:=p (j+1) GF;omega)];exact h.get j o
def Mem.isPair(m:Mem)(w:Int):Prop:=(m.atW w 1 0\/m.atW w 2 1)/\w / 8 % 2=0
instance (m:Mem) (w:Int):Decidable (m.isPair w):=by unfold Mem.isPair;infer_instance
theorem qq(V:View H j o)(g:aO a):
  fP.C j a H (λv k=> ∃r:Int,v=.tuple #[vi r,.bool (decide ((nc o).isPair a))]/\((nc o).isPair a->r=a / 8)/\Ext H k):=by
 refine Ei λR i=>fP.link ?_;unfold fP.pt;have e:0<=a / 8:=by have:=g.1;omega
 refine gc (qn V g) ?_;rintro _ n ⟨r,rfl,m,f⟩;refine⟨_,_,rfl,?_⟩;by_cases b:(nc o).atW a 1 0
 ·rw[ka (zX b),m b,lU e];refine i _ _ ⟨_,?_,λ_=>rfl,f⟩;refine De ?_;rw[Bool.eq_iff_iff,Fc,Ex];exact⟨λh=>⟨.inl b,h⟩,λh=>h.2⟩
 rw[kb (by simpa using b)];refine gc (qn (V.ext f) g) ?_;rintro _ p ⟨q,rfl,d,l⟩;refine⟨_,_,rfl,i _ _ ⟨_,?_,λh=>d (h.1.resolve_left b),f.trans l⟩⟩;refine De ?_;by_cases c:(nc o).atW a 2 1
 ·rw[d c,lU e,zX c,Bool.true_and,Bool.eq_iff_iff,Fc,Ex];exact⟨λh=>⟨.inr c,h⟩,λh=>h.2⟩
 ·rw[zQ c,FM,zQ];exact λh=>h.1.elim b c
theorem nK(V:View H j o)(e:aO a):
  fG.C j a H (λv b=>v=.bool (decide ((nc o).isPair a))/\Ext H b):=by
 refine Ei λR d=>fG.link ?_;unfold fG.pt;refine gc (qq V e) ?_;rintro _ f ⟨h,rfl,g,c⟩;exact⟨_,_,rfl,d _ _ ⟨rfl,c⟩⟩
def Mem.halfE(m:Mem)(w i:Int):Int:=if m.isPair w then(if m.used (w / 8+i)then 0 else 18)else 3
theorem Mem.isPair.addr(h:b.isPair a)(c:aO a):0<=a / 8/\a / 8<65536:=by
 have:=c.1;refine⟨GF,?_⟩;rcases h.1 with h | h
 ·exact h.1.2
 ·exact h.1.2
theorem qr(V:View H j o)(l:aO a)(u:0<=d/\d<=1):
  fN.C j a d H (λv m=>v=.tuple #[vu (if(nc o).halfE a d=0 then(nc o).get (a / 8+d)else 0),vi ((nc o).halfE a d)]/\Ext H m):=by
 refine Ei λR c=>fN.link ?_;unfold fN.pt zY;refine gc (qq V l) ?_;rintro _ r ⟨w,rfl,p,g⟩;refine⟨_,_,rfl,?_⟩;by_cases f:(nc o).isPair a
 case neg=>
  rw[kb (by simpa using f)];have e:(nc o).halfE a d=3:=by unfold Mem.halfE;rw[kb f]
  rw[e]at c;exact c _ _ ⟨rfl,g⟩
 rw[ka (zX f),p f];have t:=f.addr l;have e:(nc o).halfE a d=if(nc o).used (a / 8+d)then 0 else 18:=by unfold Mem.halfE;rw[ka f]
 rw[e]at c
 cases V with
 | nobody=>exact absurd (f.1.elim (λh=>h.2.2.1) (λh=>h.2.2.1)) ny
 | empty h=>exact absurd (f.1.elim (λh=>h.2.2.1) (λh=>h.2.2.1)) ny
 | @real b x h q=>
  have i:=h.ext g;have hm:nc (some (b,x))=x.sp.mem:=rfl;rw[hm]at c;refine⟨_,rfl,_,i.hPtr,_,rfl,_,i.cd.cPtr,_,rfl,_,i.cd.sp.memPtr,?_⟩;rw[n5 (n:=a / 8+d) GF];refine gc (je i.cd.sp.mem q.mem GF) ?_;rintro _ s ⟨rfl,rfl⟩;by_cases k:x.sp.mem.used (a / 8+d)
  ·rw[ka k]at c⊢;exact⟨_,_,rfl,c _ _ ⟨rfl,g⟩⟩
  ·rw[kb k]at c⊢;exact⟨_,_,rfl,c _ _ ⟨rfl,g⟩⟩
theorem se(V:View H j o)(e:aO a):
  gu.C j a H (λv b=>v=.tuple #[vu (if(nc o).halfE a 0=0 then(nc o).get (a / 8+0)else 0),vi ((nc o).halfE a 0)]/\Ext H b):=by
 refine Ei λR d=>gu.link ?_;unfold gu.pt;refine gc (qr V e GG) ?_;rintro _ f ⟨rfl,c⟩;exact⟨_,_,rfl,d _ _ ⟨rfl,c⟩⟩
theorem wV(V:View H j o)(e:aO a):
  hZ.C j a H (λv b=>v=.tuple #[vu (if(nc o).halfE a 1=0 then(nc o).get (a / 8+1)else 0),vi ((nc o).halfE a 1)]/\Ext H b):=by
 refine Ei λR d=>hZ.link ?_;unfold hZ.pt;refine gc (qr V e GG) ?_;rintro _ f ⟨rfl,c⟩;exact⟨_,_,rfl,d _ _ ⟨rfl,c⟩⟩
def Mem.sizeOf(m:Mem)(w:Int):Int:=if m.isPair w then 2 else if m.isObj w then m.len w+1 else 0
theorem vk(V:View H j o)(g:aO a):
  gF.C j a H (λv h=>v=vi ((nc o).sizeOf a)/\Ext H h):=by
 refine Ei λR e=>gF.link ?_;unfold gF.pt zY;refine gc (nK V g) ?_;rintro _ k ⟨rfl,d⟩;refine⟨_,rfl,?_⟩;by_cases c:(nc o).isPair a
 ·rw[ka (zX c)];exact e _ _ ⟨by unfold Mem.sizeOf;rw[ka c],d⟩
 rw[kb (by simpa using c)];refine gc (jl (V.ext d) g) ?_;rintro _ l ⟨rfl,f⟩;refine⟨_,_,_,_,_,rfl,?_⟩;by_cases b:(nc o).isObj a
 ·rw[ka (zX b)];have m:=b.len_lt;have i:(nc o).len a=hn ((nc o).get (a / 8)):=by unfold Mem.len;rw[ka b]
  refine e _ _ ⟨?_,d.trans f⟩;rw[n5 GF];unfold Mem.sizeOf;rw[kb c,ka b]
 ·rw[kb (by simpa using b)];exact e _ _ ⟨by unfold Mem.sizeOf;rw[kb c,kb b],d.trans f⟩
theorem ym{H0 H:zV}(b:H[g]?=some (.cells #[vu a,vu d] 37 (0,0))):bV H (some ⟨g,0,none⟩) (Bi [a,d]):=
 cX b _ 0 0 (λj c=>by
  have:j=0\/j=1:=by simp at c;omega
  rcases this with rfl | rfl<;>rfl)
theorem vm(V:View H j o)(t:aO a)(u:aO d)(q:uf o):
  gy.C j a d H (λv f=>v=.tuple #[vu (BG o 0 1 [a,d]).1,vi (BG o 0 1 [a,d]).2]/\View f j (BV o 0 1 [a,d])/\Fr (own o) H f):=by
 refine Ei λR n=>gy.link ?_;unfold gy.pt;intro b k p c;have g:Ext H k:=Eh c;refine gc (sd (ws:=[a,d]) (V.ext g) (ym (H0:=H) (aK p c)) rfl (λw h=>by simp at h;rcases h with rfl | rfl<;>assumption) (λi r e=>by simp at r;have:=V.own_lt i e;omega) q GG GH) ?_;rintro _ s ⟨rfl,l,m⟩;exact⟨_,_,rfl,n _ _ ⟨rfl,l,g.fr.trans m⟩⟩
