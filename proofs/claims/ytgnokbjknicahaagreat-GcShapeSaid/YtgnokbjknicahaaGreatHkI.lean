/-
 Whether pictures are alike (package morainelaw13). Proves nothing of any one statement.
-/
import Derived.Test.YtgnokbjknicahaaGreatHkD
import Derived.Test.YtgnokbjknicahaaGreatGcI
set_option linter.unusedVariables false
set_option linter.unusedSimpArgs false
namespace Go.Proofs.YtgnokbjknicahaaGreat
open Go

theorem KnRow.at'{H:zV}{B:zW}{n c:Nat}{ks:List Kn}{rb:List Nat}(h:KnRow H B n c ks rb){i:Nat}(hi:i<ks.length): ∃(a:Addr) (v:KV),B=some a/\hat H (a.add (i*3))=some (.int .u64 ks[i].kind)/\hat H ((a.add (i*3)).add 1)=some (.slice v.wB ks[i].ws.length v.wC)/\hat H ((a.add (i*3)).add 2)=some (.slice v.iB ks[i].is.length v.iC)/\SrcAt H v.wB (wvs ks[i].ws)/\SrcAt H v.iB (ivs ks[i].is)/\ks[i].ws.length<=100000000/\ks[i].is.length<=100000000:=by
 obtain⟨kvs,h1,h2,h3⟩:=h.row
 have hi':i<kvs.length:=by omega
 obtain⟨a,ha,_,hr⟩:=h2.elem KV.cells_len (by decide) hi'
 have k:=h3 i hi' hi
 have hr':=hr
 simp only[KV.cells,RowAt,and_true,addr_add2]at hr'
 refine⟨a,kvs[i],ha,?_,?_,?_,k.w,k.i,k.len⟩
 ·rw[<-k.kind];exact hr'.1
 ·rw[<-k.wN,addr_add2];exact hr'.2.1
 ·rw[<-k.iN,addr_add2];exact hr'.2.2
theorem take_eq_succ{α:Type}{a b:List α}{i:Nat}(h:a.take i=b.take i)(ha:i<a.length)(hb:i<b.length)(e:a[i]=b[i]):a.take (i+1)=b.take (i+1):=by
 rw[List.take_succ_eq_append_getElem ha,List.take_succ_eq_append_getElem hb,h,e]
theorem words13_c{H:zV}{aB bB:zW}{aN aC bN bC:Nat}{xs ys:List Int}(A:SrcAt H aB (wvs xs))(B:SrcAt H bB (wvs ys))(ha:aN=xs.length)(hb:bN=ys.length)(hl:aN<=1000000000):
  morainelaw13_words.C aB aN aC bB bN bC H (λv H'=>v=.bool (decide (xs=ys))/\H'=H):=by
 refine HC.via λR hR=>morainelaw13_words.link ?_
 unfold morainelaw13_words.pt zY
 have no:xs≠ys->R (.bool false) H:=λh=>hR _ _ ⟨by rw[zQ h],rfl⟩
 by_cases hlen:(aN:Int)=(bN:Int)
 case neg=>rw[if_neg hlen];exact no (λe=>hlen (by rw[ha,hb,e]))
 rw[if_pos hlen]
 refine⟨λi A'=>(0<=i/\i<=xs.length)/\xs.take i.toNat=ys.take i.toNat/\A'=H,λi _=>(xs.length-i).toNat,⟨by omega,by simp,rfl⟩,?_⟩
 rintro i H1 ⟨hi,ht,rfl⟩
 by_cases hlt:i< (aN:Int)
 case neg=>
  rw[if_neg hlt]
  rw[List.take_of_length_le (by omega),List.take_of_length_le (by omega)]at ht
  exact hR _ _ ⟨by rw[zX ht],rfl⟩
 rw[if_pos hlt]
 have k1:i.toNat<xs.length:=by omega
 have k2:i.toNat<ys.length:=by omega
 obtain⟨a1,r1,s1⟩:=src_wv A k1
 obtain⟨a2,r2,s2⟩:=src_wv B k2
 refine⟨a1,r1,⟨hi.1,hlt⟩,_,s1,a2,r2,⟨hi.1,by omega⟩,_,s2,?_⟩
 by_cases hww:xs[i.toNat]=ys[i.toNat]
 case neg=>rw[if_neg hww];exact no (λe=>hww (by subst e;rfl))
 rw[if_pos hww]
 have hd:((xs.length:Int)-(i+1)).toNat< ((xs.length:Int)-i).toNat:=by omega
 rw[w64 (n:=i+1) (by omega)]
 refine⟨⟨by omega,?_,rfl⟩,hd⟩
 rw[show(i+1).toNat=i.toNat+1 by omega]
 exact take_eq_succ ht k1 k2 hww
set_option maxRecDepth 100000 in
theorem alike13_c{H:zV}{aB bB:zW}{aN aC bN bC:Nat}{xs ys:List Kn}{ra rb:List Nat}(A:KnRow H aB aN aC xs ra)(B:KnRow H bB bN bC ys rb)(hl:aN<=10000000):
  morainelaw13_alike.C aB aN aC bB bN bC H (λv H'=>v=.bool (decide (xs=ys))/\H'=H):=by
 refine HC.via λR hR=>morainelaw13_alike.link ?_
 unfold morainelaw13_alike.pt zY
 have no:xs≠ys->R (.bool false) H:=λh=>hR _ _ ⟨by rw[zQ h],rfl⟩
 have hA:=A.n
 have hB:=B.n
 by_cases hlen:(aN:Int)=(bN:Int)
 case neg=>rw[if_neg hlen];exact no (λe=>hlen (by rw[hA,hB,e]))
 rw[if_pos hlen]
 refine⟨λi A'=>(0<=i/\i<=xs.length)/\xs.take i.toNat=ys.take i.toNat/\A'=H,λi _=>(xs.length-i).toNat,⟨by omega,by simp,rfl⟩,?_⟩
 rintro i H1 ⟨hi,ht,rfl⟩
 by_cases hlt:i< (aN:Int)
 case neg=>
  rw[if_neg hlt]
  rw[List.take_of_length_le (by omega),List.take_of_length_le (by omega)]at ht
  exact hR _ _ ⟨by rw[zX ht],rfl⟩
 rw[if_pos hlt]
 have hia:i.toNat<xs.length:=by omega
 have hib:i.toNat<ys.length:=by omega
 obtain⟨a,va,rfl,p1,p2,p3,p4,p5,p6,p7⟩:=A.at' hia
 obtain⟨b,vb,rfl,q1,q2,q3,q4,q5,q6,q7⟩:=B.at' hib
 have hne:xs[i.toNat]≠ys[i.toNat]->xs≠ys:=λh e=>h (by subst e;rfl)
 have bi:(0:Int)<=i/\i< (aN:Int):=⟨hi.1,hlt⟩
 have bj:(0:Int)<=i/\i< (bN:Int):=⟨hi.1,by omega⟩
 refine⟨a,rfl,bi,_,p1,b,rfl,bj,_,q1,?_⟩
 generalize hka:xs[i.toNat]=ka at*
 generalize hkb:ys[i.toNat]=kb at*
 by_cases hk:ka.kind=kb.kind
 case neg=>rw[if_neg hk];exact no (hne (λe=>hk (by rw[e])))
 rw[if_pos hk]
 refine⟨bi,_,_,_,p2,bj,_,_,_,q2,?_⟩
 refine HC.mono (words13_c p4 q4 rfl rfl (by omega)) ?_
 rintro _ H2 ⟨rfl,rfl⟩
 refine⟨_,rfl,?_⟩
 by_cases hw:ka.ws=kb.ws
 case neg=>rw[if_neg (by simpa using hw)];exact no (hne (λe=>hw (by rw[e])))
 rw[if_pos (zX hw)]
 refine⟨bi,_,_,_,p3,bj,_,_,_,q3,row1 p3,?_⟩
 by_cases hn:(ka.is.length:Int)=(kb.is.length:Int)
 case neg=>rw[if_neg hn];exact no (hne (λe=>hn (by rw[e])))
 rw[if_pos hn]
 refine⟨λk A'=>(0<=k/\k<=ka.is.length)/\ka.is.take k.toNat=kb.is.take k.toNat/\A'=H2,λk _=>(ka.is.length-k).toNat,⟨by omega,by simp,rfl⟩,?_⟩
 rintro k H3 ⟨hkr,ht2,rfl⟩
 refine⟨bi,_,_,_,p3,?_⟩
 by_cases hkl:k< (ka.is.length:Int)
 case neg=>
  rw[if_neg hkl]
  rw[List.take_of_length_le (by omega),List.take_of_length_le (by omega)]at ht2
  have he:ka=kb:=by
   cases ka;cases kb
   simp only[Kn.mk.injEq]at*
   exact⟨hk,hw,ht2⟩
  have hd:((xs.length:Int)-(i+1)).toNat< ((xs.length:Int)-i).toNat:=by omega
  rw[w64 (n:=i+1) (by omega)]
  refine⟨⟨by omega,?_,rfl⟩,hd⟩
  rw[show(i+1).toNat=i.toNat+1 by omega]
  exact take_eq_succ ht hia hib (by rw[hka,hkb,he])
 rw[if_pos hkl]
 have k3:k.toNat<ka.is.length:=by omega
 have k4:k.toNat<kb.is.length:=by omega
 obtain⟨a3,r3,s3⟩:=src_int p5 k3
 obtain⟨a4,r4,s4⟩:=src_int q5 k4
 refine⟨bi,_,_,_,p3,a3,r3,⟨by omega,by omega⟩,_,s3,bj,_,_,_,q3,a4,r4,⟨by omega,by omega⟩,_,s4,?_⟩
 by_cases hii:ka.is[k.toNat]=kb.is[k.toNat]
 case neg=>rw[if_neg hii];exact no (hne (λe=>hii (by subst e;rfl)))
 rw[if_pos hii]
 have hd:((ka.is.length:Int)-(k+1)).toNat< ((ka.is.length:Int)-k).toNat:=by omega
 rw[w64 (n:=k+1) (by omega)]
 refine⟨⟨by omega,?_,rfl⟩,hd⟩
 rw[show(k+1).toNat=k.toNat+1 by omega]
 exact take_eq_succ ht2 k3 k4 hii

structure Sim (m:Mem) (held:List Int) (g:Int) (lost:Bool) (m':Mem) (held':List Int) (g':Int) (lost':Bool) (f:Int->Int) (G:Int->Prop):Prop where
 size: ∀v,G v->m'.sizeOf (f v)=m.sizeOf v
 no: ∀v,G v->m.sizeOf v=0->f v=v
 inj: ∀v v',G v->G v'->f v=f v'->v=v'
 thing: ∀w,G w->m.sizeOf w≠0->f w % 8=w % 8/\(m'.rawT (f w) ↔ m.rawT w)
 raw: ∀w,G w->m.sizeOf w≠0->m.rawT w-> ∀i:Nat,(i:Int)<m.sizeOf w->m'.told held' g' lost' (f w) i=m.told held g lost w i
 word: ∀w,G w->m.sizeOf w≠0-> ¬m.rawT w-> ∀i:Nat,(i:Int)<m.sizeOf w->G (m.told held g lost w i)/\m'.told held' g' lost' (f w) i=f (m.told held g lost w i)

section
variable {m m':Mem} {held held':List Int} {g g':Int} {lost lost':Bool} {f:Int->Int} {G:Int->Prop}
theorem Sim.mem(S:Sim m held g lost m' held' g' lost' f G){all:List Int}(hall: ∀v∈all,G v){v:Int}(hv:G v):f v∈all.map f ↔ v∈all:=by
 rw[List.mem_map]
 constructor
 ·rintro⟨u,hu,e⟩
  rw[<-S.inj u v (hall u hu) hv e];exact hu
 ·intro h;exact⟨v,h,rfl⟩
theorem Sim.of(S:Sim m held g lost m' held' g' lost' f G){all:List Int}(hall: ∀v∈all,G v){v:Int}(hv:G v):ofW m' (all.map f) (f v)=(ofW m all v).map f/\ ∀u∈ofW m all v,G u:=by
 unfold ofW
 rw[S.size v hv]
 have hm:=S.mem hall hv
 by_cases h:m.sizeOf v=0\/v∈all
 ·rw[if_pos h,if_pos (h.imp id hm.2)];exact⟨rfl,hall⟩
 ·rw[if_neg h,if_neg (λq=>h (q.imp id hm.1))]
  refine⟨by simp,λu hu=>?_⟩
  rcases List.mem_append.1 hu with q | q
  ·exact hall u q
  ·simp at q;rw[q];exact hv
theorem Sim.idx(S:Sim m held g lost m' held' g' lost' f G){v:Int}(hv:G v): ∀(all:List Int),(∀u∈all,G u)->(all.map f).idxOf (f v)=all.idxOf v
 | [],_=>rfl
 | a::l,h=>by
  simp only[List.map_cons,List.idxOf_cons]
  have ih:=S.idx hv l (λu hu=>h u (by simp[hu]))
  by_cases e:a=v
  ·subst e;simp
  ·have e2: ¬f a=f v:=λq=>e (S.inj a v (h a (by simp)) hv q)
   have b1:(f a==f v)=false:=by simpa using e2
   have b2:(a==v)=false:=by simpa using e
   rw[b1,b2,ih]
theorem Sim.num(S:Sim m held g lost m' held' g' lost' f G){all:List Int}(hall: ∀v∈all,G v){v:Int}(hv:G v):numW m' (all.map f) (f v)=numW m all v:=by
 unfold numW
 rw[S.size v hv,(S.of hall hv).1,S.idx hv _ (S.of hall hv).2]
def Along(f:Int->Int)(G:Int->Prop)(st st':List Int×Kn):Prop:=st'=(st.1.map f,st.2)/\ ∀v∈st.1,G v
theorem Sim.put(S:Sim m held g lost m' held' g' lost' f G){st st':List Int×Kn}(h:Along f G st st'){v:Int}(hv:G v):Along f G (putP m st v) (putP m' st' (f v)):=by
 obtain⟨rfl,hall⟩:=h
 refine⟨?_,(S.of hall hv).2⟩
 unfold putP
 show(ofW m' (st.1.map f) (f v),st.2.add (numW m' (st.1.map f) (f v)) (f v))=_
 rw[(S.of hall hv).1,S.num hall hv]
 refine Prod.ext rfl ?_
 show st.2.add _ (f v)=st.2.add _ v
 unfold Kn.add
 by_cases h0:numW m st.1 v>0
 ·rw[if_pos h0,if_pos h0]
 ·have:m.sizeOf v=0:=by
   by_cases q:m.sizeOf v=0
   ·exact q
   ·exfalso;apply h0;unfold numW;rw[if_neg q];omega
  rw[S.no v hv this]
theorem Sim.toldL(S:Sim m held g lost m' held' g' lost' f G){w:Int}(hw:G w)(hs:m.sizeOf w≠0): ∀(l:List Nat) {st st':List Int×Kn},Along f G st st'->(∀i∈l,(i:Int)<m.sizeOf w)->
  Along f G ((l.map λi:Nat=>m.told held g lost w i).foldl (objStep m w) st) ((l.map λi:Nat=>m'.told held' g' lost' (f w) i).foldl (objStep m' (f w)) st')
 | [],_,_,h,_=>h
 | i::l,st,st',h,hl=>by
  have hi:=hl i (by simp)
  have hr:=(S.thing w hw hs).2
  refine S.toldL hw hs l ?_ (λu hu=>hl u (by simp[hu]))
  show Along f G (objStep m w st (m.told held g lost w i)) (objStep m' (f w) st' (m'.told held' g' lost' (f w) i))
  unfold objStep
  by_cases q:m.rawT w
  ·rw[if_pos q,if_pos (hr.2 q),S.raw w hw hs q i hi]
   obtain⟨rfl,hall⟩:=h
   exact⟨rfl,hall⟩
  ·rw[if_neg q,if_neg (λr=>q (hr.1 r))]
   obtain⟨g1,g2⟩:=S.word w hw hs q i hi
   rw[g2]
   exact S.put h g1
theorem Sim.knot(S:Sim m held g lost m' held' g' lost' f G){all:List Int}(hall: ∀v∈all,G v){w:Int}(hw:G w)(hs:m.sizeOf w≠0):Along f G (knotOf m held g lost all w) (knotOf m' held' g' lost' (all.map f) (f w)):=by
 unfold knotOf Mem.tolds
 rw[S.size w hw,(S.thing w hw hs).1]
 exact S.toldL hw hs _ ⟨rfl,hall⟩ (λi hi=>by
  rw[List.mem_range]at hi
  have:=sizeOf_rng m w
  omega)
def AlongP(m:Mem)(f:Int->Int)(G:Int->Prop)(st st':List Int×List Kn):Prop:=st'=(st.1.map f,st.2)/\ ∀v∈st.1,G v/\m.sizeOf v≠0
theorem ofW_thing{m:Mem}{all:List Int}(h: ∀v∈all,m.sizeOf v≠0)(v:Int): ∀u∈ofW m all v,m.sizeOf u≠0:=by
 unfold ofW
 split
 ·exact h
 ·rename_i q
  intro u hu
  rcases List.mem_append.1 hu with r | r
  ·exact h u r
  ·simp at r;rw[r];exact λe=>q (.inl e)
theorem objs_thing{m:Mem}{w:Int}: ∀(l:List Int) (st:List Int×Kn),(∀v∈st.1,m.sizeOf v≠0)-> ∀v∈(l.foldl (objStep m w) st).1,m.sizeOf v≠0
 | [],st,h=>h
 | v::l,st,h=>objs_thing l (objStep m w st v) (by
  unfold objStep
  split
  ·exact h
  ·exact ofW_thing h v)
theorem knot_thing{all:List Int}(h: ∀v∈all,m.sizeOf v≠0)(w:Int): ∀v∈(knotOf m held g lost all w).1,m.sizeOf v≠0:=objs_thing _ _ h
theorem Sim.step(S:Sim m held g lost m' held' g' lost' f G){st st':List Int×List Kn}(h:AlongP m f G st st'):AlongP m f G (picStep m held g lost st) (picStep m' held' g' lost' st'):=by
 obtain⟨rfl,hall⟩:=h
 unfold picStep
 show AlongP m f G (match st.1[st.2.length-1]? with
  | some w=>((knotOf m held g lost st.1 w).1,st.2++[(knotOf m held g lost st.1 w).2])
  | none=>st) (match(st.1.map f)[st.2.length-1]? with
  | some w=>((knotOf m' held' g' lost' (st.1.map f) w).1,st.2++[(knotOf m' held' g' lost' (st.1.map f) w).2])
  | none=>(st.1.map f,st.2))
 rw[List.getElem?_map]
 cases hw:st.1[st.2.length-1]? with
 | none=>exact⟨rfl,hall⟩
 | some w=>
  have hmem:=List.mem_of_getElem? hw
  obtain⟨k1,k2⟩:=S.knot (λv hv=>(hall v hv).1) (hall w hmem).1 (hall w hmem).2
  refine⟨?_,λv hv=>⟨k2 v hv,knot_thing (λv hv=>(hall v hv).2) w v hv⟩⟩
  show((knotOf m' held' g' lost' (st.1.map f) (f w)).1,st.2++[(knotOf m' held' g' lost' (st.1.map f) (f w)).2])=_
  rw[k1]
theorem Sim.roots(S:Sim m held g lost m' held' g' lost' f G): ∀(l:List Int) {st:List Int×List Int},(∀v∈st.1,G v/\m.sizeOf v≠0)->(∀v∈l,G v)->
  (l.map f).foldl (rootP m') (st.1.map f,st.2)=((l.foldl (rootP m) st).1.map f,(l.foldl (rootP m) st).2)/\ ∀v∈(l.foldl (rootP m) st).1,G v/\m.sizeOf v≠0
 | [],st,h,_=>⟨rfl,h⟩
 | v::l,st,h,hl=>by
  have hv:=hl v (by simp)
  obtain⟨o1,o2⟩:=S.of (λu hu=>(h u hu).1) hv
  have ot:=ofW_thing (λu hu=>(h u hu).2) v
  have ih:=S.roots l (st:=rootP m st v) (λu hu=>⟨o2 u hu,ot u hu⟩) (λu hu=>hl u (by simp[hu]))
  have e:rootP m' (st.1.map f,st.2) (f v)=((rootP m st v).1.map f,(rootP m st v).2):=by
   show(ofW m' (st.1.map f) (f v),st.2++[numW m' (st.1.map f) (f v)])=_
   rw[o1,S.num (λu hu=>(h u hu).1) hv];rfl
  show(l.map f).foldl (rootP m') (rootP m' (st.1.map f,st.2) (f v))=_/\_
  rw[e];exact ih
theorem Sim.picN(S:Sim m held g lost m' held' g' lost' f G){roots:List Int}(hr: ∀v∈roots,G v): ∀n,AlongP m f G (picN m held g lost (pic0 m roots) n) (picN m' held' g' lost' (pic0 m' (roots.map f)) n)
 | 0=>by
  obtain⟨h1,h2⟩:=S.roots roots (st:=([],[])) (λv hv=>by simp at hv) hr
  refine⟨?_,h2⟩
  show(((roots.map f).foldl (rootP m') ([],[])).1,[(⟨0,[],((roots.map f).foldl (rootP m') ([],[])).2⟩:Kn)])=_
  have h1':(roots.map f).foldl (rootP m') ([],[])=_:=h1
  rw[h1'];rfl
 | n+1=>S.step (S.picN hr n)
theorem picN_stop{st:List Int×List Kn}{n:Nat}(h:(picN m held g lost st n).2.length=(picN m held g lost st n).1.length+1): ∀d,picN m held g lost st (n+d)=picN m held g lost st n
 | 0=>rfl
 | d+1=>by
  show picStep m held g lost (picN m held g lost st (n+d))=_
  rw[picN_stop h d]
  unfold picStep
  rw[h,Nat.add_sub_cancel,List.getElem?_eq_none (Nat.le_refl _)]
theorem Sim.pic(S:Sim m held g lost m' held' g' lost' f G){roots:List Int}(hr: ∀v∈roots,G v){ks ks':List Kn}(h:IsPic m held g lost roots ks)(h':IsPic m' held' g' lost' (roots.map f) ks'):ks'=ks:=by
 obtain⟨n,rfl,hn⟩:=h
 obtain⟨n',rfl,hn'⟩:=h'
 have e1:=picN_stop hn n'
 have e2:=picN_stop hn' n
 rw[<-e1,<-e2,Nat.add_comm n' n]
 have:=(S.picN hr (n+n')).1
 rw[this]
end

theorem isObj_of{m:Mem}{w:Int}(h:m.sizeOf w≠0)(hp: ¬m.isPair w):m.isObj w:=by
 by_cases ho:m.isObj w
 ·exact ho
 ·unfold Mem.sizeOf at h
  rw[if_neg hp,if_neg ho]at h;exact absurd rfl h
theorem pair_noObj{m:Mem}{w:Int}(hp:m.isPair w): ¬m.isObj w:=λho=>by
 have:=ho.1.2.1
 exact(isPair_iff (pair_size hp)).1 hp this
theorem tagK_two{k:Int}(h:0<=k/\k<=3):(tagK k=2 ↔ k=1)/\(tagK k=3 ↔ 2<=k):=by
 unfold tagK
 by_cases h0:k=0
 ·rw[if_pos h0];omega
 ·rw[if_neg h0]
  by_cases h1:k=1
  ·rw[if_pos h1];omega
  ·rw[if_neg h1];omega
theorem Sound.rawT{m:Mem}{sz:Int->Nat}(h:Sound m sz)(ok:MemOK m){w:Int}(hw:IsWord w)(hg:Good m sz w)(ht:isTag w):m.rawT w ↔ m.kAt (w / 8)=3:=by
 obtain⟨d1,d2⟩:=hg.2 ht
 have hsz:=h.size ok hw hg ht
 have hkr:0<=m.kAt (w / 8)/\m.kAt (w / 8)<=3:=(ok.seg _).kind
 obtain⟨k1,k2⟩:=tagK_two hkr
 by_cases h1:m.kAt (w / 8)<=1
 ·have hp:m.isPair w:=(isPair_iff (by omega)).2 (by rw[d2,ne_eq,k2];omega)
  unfold Mem.rawT Mem.typ
  rw[if_neg (pair_noObj hp)]
  generalize m.kAt (w / 8)=y at*
  omega
 ·obtain⟨p1,p2,p3⟩:=h.obj _ d1 (by omega)
  have ho:m.isObj w:=isObj_of (by omega) (λq=>(isPair_iff (by omega)).1 q (by rw[d2,k2];omega))
  have hty:m.typ w=hk (m.get (w / 8)):=by unfold Mem.typ;rw[if_pos ho]
  rw[<-hty]at p2
  unfold rawK at p2
  unfold Mem.rawT
  constructor
  ·intro q;rw[if_pos q]at p2;exact p2
  ·intro q
   by_cases r:m.typ w=2\/m.typ w=3
   ·exact r
   ·rw[if_neg r]at p2;omega
theorem Sound.at_{m:Mem}{sz:Int->Nat}(h:Sound m sz)(ok:MemOK m){w:Int}(hg:Good m sz w)(ht:isTag w){k:Nat}(hk:k<sz (w / 8)):m.used (w / 8+k)/\m.read (w / 8+k)=m.get (w / 8+k)/\m.kAt (w / 8+k)=m.kAt (w / 8)/\(w / 8+k) / 64=w / 8 / 64:=by
 have hai:=h.usedAt (hg.2 ht).1 hk (λk=>(ok.seg k).n.2)
 refine⟨hai.1,?_,?_,hai.2.1⟩
 ·unfold Mem.read;rw[if_pos hai.1]
 ·unfold Mem.kAt;rw[hai.2.1]
theorem Sound.kid{m:Mem}{sz:Int->Nat}(h:Sound m sz)(ok:MemOK m){w:Int}(hw:IsWord w)(hg:Good m sz w)(ht:isTag w){k:Nat}(hk:k<sz (w / 8)):m.kid w k ↔ m.strong (w / 8+k):=by
 obtain⟨d1,d2⟩:=hg.2 ht
 have hkr:0<=m.kAt (w / 8)/\m.kAt (w / 8)<=3:=(ok.seg _).kind
 obtain⟨k1,k2⟩:=tagK_two hkr
 unfold Mem.kid Mem.strong
 rw[h.rawT ok hw hg ht,(h.at_ ok hg ht hk).2.2.1,d2]
 have h1:m.kAt (w / 8)=1->sz (w / 8)=2/\w / 8 % 2=0:=λe=>h.two _ d1 (by omega)
 by_cases e:m.kAt (w / 8)=1
 ·have:=h1 e
  have:=k1.2 e
  omega
 ·have: ¬tagK (m.kAt (w / 8))=2:=λq=>e (k1.1 q)
  omega
theorem gen_old{m:Mem}{O:Nat->Bool}{g w:Int}(ok:MemOK m)(hO: ∀k:Nat,k<1024->(O k=true ↔ m.has k/\(m.seg k).gen<=g))(hw:IsWord w)(h:(m.genOf w).2=true/\(m.genOf w).1<=g):isOldW O w:=by
 have hl:=ok.lim
 obtain⟨h1,h2⟩:=h
 unfold Mem.genOf at h1 h2
 by_cases ha:isAddr w/\w % 8≠6
 ·rw[if_pos ha]at h1 h2
  have hh:m.has (w / 8 / 64):=by simpa using h1
  simp only[if_pos hh]at h2
  have hlt:=hh.2.1
  refine⟨ha.1,ha.2,(hO _ (by omega)).2 ⟨?_,h2⟩⟩
  have:=hw.1
  rw[show(((w / 8 / 64).toNat:Nat):Int)=w / 8 / 64 by omega];exact hh
 ·rw[if_neg ha]at h1;cases h1
theorem old_gen{m:Mem}{O:Nat->Bool}{g w:Int}(hO: ∀k:Nat,k<1024->(O k=true ↔ m.has k/\(m.seg k).gen<=g))(hlt:(w / 8 / 64).toNat<1024)(hw:IsWord w)(h:isOldW O w):(m.genOf w).2=true/\(m.genOf w).1<=g:=by
 obtain⟨q1,q2⟩:=(hO _ hlt).1 h.2.2
 have:=hw.1
 rw[show(((w / 8 / 64).toNat:Nat):Int)=w / 8 / 64 by omega]at q1
 rw[genOf_old h.1 h.2.1 q1]
 exact⟨rfl,q2⟩

section
variable {Z:TZ} {g F0:Int} {fw:Int->Option Int} {al:List Int} {s:Sp} {sz:Int->Nat}
theorem Static.gen(S:Static Z g F0){w:Int}(hw:IsWord w)(hg:Good Z.m Z.sz w):isOldW Z.O w ↔ (Z.m.genOf w).2=true/\(Z.m.genOf w).1<=g:=by
 refine⟨λh=>?_,λh=>gen_old S.ok S.old hw h⟩
 obtain⟨h1,_⟩:=S.oldWord hg h
 exact old_gen S.old (S.lt (S.sound.used _ h1).1).1 hw h
theorem Static.older(S:Static Z g F0){x:Int}(hu:Z.m.used x):Z.O (x / 64).toNat=false ↔ g<Z.m.gAt x:=by
 have hlx:=S.lt hu
 have hx0:=hu.1
 have:=S.old _ hlx.1
 rw[show(((x / 64).toNat:Nat):Int)=x / 64 by omega]at this
 have e:(Z.m.seg (x / 64).toNat).gen=Z.m.gAt x:=rfl
 rw[e]at this
 cases hO:Z.O (x / 64).toNat with
 | true=>
  have:=(this.1 hO).2
  constructor
  ·intro q;cases q
  ·intro q;omega
 | false=>
  refine⟨λ_=>?_,λ_=>rfl⟩
  rcases Int.lt_or_le g (Z.m.gAt x)with q | q
  ·exact q
  ·rw[hO]at this;have:=this.2 ⟨hu.2.1,q⟩;cases this
theorem Static.held(S:Static Z g F0){roots all:List Int}(hV: ∀v,Z.V v ↔ v∈roots)(h:Held Z.m g roots all):(∀w∈all,IsWord w/\Good Z.m Z.sz w/\isTag w/\(isOldW Z.O w->Reach Z (w / 8)))/\ ∀v,IsWord v->Good Z.m Z.sz v->isTag v->Reach Z (v / 8)->v∈all:=by
 have hthing: ∀w,IsWord w->Good Z.m Z.sz w->isTag w->Z.m.sizeOf w≠0:=λw hw hg ht=>by
  rw[S.sound.size S.ok hw hg ht];have:=(hg.2 ht).1;omega
 constructor
 ·refine h.min _ ⟨λw hw hs=>?_,λx hu hgx hst hs=>?_,λw hP hw hs k hk0 hk hkid hs2=>?_⟩
  ·obtain⟨v1,v2⟩:=S.V w ((hV w).2 hw)
   exact⟨v1,v2,thing_tag hs,λho=> .root ((hV w).2 hw) ho⟩
  ·exact⟨(S.ok.seg _).words _,S.sound.good x hu hst.1,thing_tag hs,λho=> .older hu ((S.older hu).2 hgx) hst ho⟩
  ·obtain⟨p1,p2,p3,p4⟩:=hP
   have hsz:=S.sound.size S.ok p1 p2 p3
   have hkn:((k.toNat:Nat):Int)=k:=by omega
   have hkl:k.toNat<Z.sz (w / 8):=by omega
   obtain⟨r1,r2,r3,r4⟩:=S.sound.at_ S.ok p2 p3 hkl
   have hst:=(S.sound.kid S.ok p1 p2 p3 hkl).1 (by rw[hkn];exact hkid)
   rw[hkn]at r1 r2 r3 r4 hst
   rw[r2]at hs2⊢
   refine⟨(S.ok.seg _).words _,S.sound.good _ r1 hst.1,thing_tag hs2,λho=>?_⟩
   by_cases q:isOldW Z.O w
   ·have:=Reach.step (i:=k.toNat) (p4 q) hkl (by rw[hkn];exact hst) (by rw[hkn];exact ho)
    rw[hkn]at this;exact this
   ·refine .older r1 ?_ hst ho
    rw[r4]
    have ha:=size_addr (hthing w p1 p2 p3)
    have h6:=p2.1
    cases e:Z.O (w / 8 / 64).toNat with
    | false=>rfl
    | true=>exact absurd ⟨ha,h6,e⟩ q
 ·have: ∀a,Reach Z a-> ∃w∈all,w / 8=a/\IsWord w/\Good Z.m Z.sz w/\isTag w:=by
   intro a ha
   induction ha with
   | @root v hv ho=>
    obtain⟨v1,v2⟩:=S.V v hv
    exact⟨v,h.cl.root v ((hV v).1 hv) (hthing v v1 v2 (old_tag ho)),rfl,v1,v2,old_tag ho⟩
   | @older x hu hn hs ho=>
    have hw:IsWord (Z.m.get x):=(S.ok.seg _).words _
    have hg:=S.sound.good x hu hs.1
    exact⟨_,h.cl.older x hu ((S.older hu).1 hn) hs (hthing _ hw hg (old_tag ho)),rfl,hw,hg,old_tag ho⟩
   | @step a i hr hi hs ho ih=>
    obtain⟨w,w1,w2,w3,w4,w5⟩:=ih
    subst w2
    obtain⟨r1,r2,_⟩:=S.sound.at_ S.ok w4 w5 hi
    have hw:IsWord (Z.m.get (w / 8+i)):=(S.ok.seg _).words _
    have hg:=S.sound.good _ r1 hs.1
    have hsz:=S.sound.size S.ok w3 w4 w5
    have:=h.cl.kid w w1 w3 (hthing w w3 w4 w5) i (by omega) (by omega) ((S.sound.kid S.ok w3 w4 w5 hi).2 hs) (by rw[r2];exact hthing _ hw hg (old_tag ho))
    rw[r2]at this
    exact⟨_,this,rfl,hw,hg,old_tag ho⟩
  intro v v1 v2 v3 hr
  obtain⟨w,w1,w2,w3,w4,w5⟩:=this _ hr
  have e1:=(w4.2 w5).2
  have e2:=(v2.2 v3).2
  rw[w2]at e1
  have:w=v:=by omega
  rw[<-this];exact w1
def GW(Z:TZ)(fw:Int->Option Int)(v:Int):Prop:=IsWord v/\Good Z.m Z.sz v/\Dn Z.O fw v
theorem Traced.at'{tr:Tr}{s':Sp}{m:Mem}(t:Traced Z g F0 fw al sz tr s s' m)(ok:MemOK m){w:Int}(hw:GW Z fw w)(ht:isTag w): ∀i:Nat,i<Z.sz (w / 8)->Was Z fw (Fw Z.O fw w / 8+i) (Z.m.get (w / 8+i))/\m.used (Fw Z.O fw w / 8+i)/\s.mem.kAt (Fw Z.O fw w / 8+i)=Z.m.kAt (w / 8)/\Z.m.used (w / 8+i)/\Z.m.kAt (w / 8+i)=Z.m.kAt (w / 8):=by
 intro i hi
 obtain⟨ww,wg,wd⟩:=hw
 obtain⟨g1,g2,g3⟩:=t.good ww wg wd
 obtain⟨u1,u2,u3,u4⟩:=g2 ht
 have S:=t.S
 have hsz:=(wg.2 ht).1
 have hai:=S.sound.usedAt hsz hi (λk=>(S.ok.seg k).n.2)
 have hkz:Z.m.kAt (w / 8+i)=Z.m.kAt (w / 8):=by unfold Mem.kAt;rw[hai.2.1]
 have hsz':szE Z.O sz (Fw Z.O fw w / 8)≠0:=by rw[u2];exact hsz
 have hn64: ∀k,(m.seg k).n<=64:=λk=>(ok.seg k).n.2
 have hbi:=t.sound.usedAt hsz' (by rw[u2];exact hi) hn64
 have hk1:=(t.kind hbi.1).1
 have hk2:m.kAt (Fw Z.O fw w / 8+i)=Z.m.kAt (w / 8):=by rw[<-u3];unfold Mem.kAt;rw[hbi.2.1]
 refine⟨?_,hbi.1,by rw[<-hk1,hk2],hai.1,hkz⟩
 by_cases ho:isOldW Z.O w
 ·obtain⟨b,hb⟩:=wd ho
  rw[Fw_some ho hb,show(b*8+w % 8) / 8=b by omega]
  exact .inr ⟨w / 8,b,i,hb,hi,rfl,rfl⟩
 ·rw[Fw_no ho]at hbi⊢
  exact .inl ⟨hai.1,(t.used.1 hbi.1).2,rfl⟩
theorem Traced.gw_at{tr:Tr}{s':Sp}{m:Mem}(t:Traced Z g F0 fw al sz tr s s' m)(ok:MemOK m){w:Int}(hw:GW Z fw w)(ht:isTag w){i:Nat}(hi:i<Z.sz (w / 8))(h3:Z.m.kAt (w / 8)≠3)(hs: ¬(Z.m.kAt (w / 8)=1/\(Fw Z.O fw w / 8+i) % 2=0)):GW Z fw (Z.m.get (w / 8+i))/\m.get (Fw Z.O fw w / 8+i)=Fw Z.O fw (Z.m.get (w / 8+i)):=by
 obtain⟨a1,a2,a3,a4,a5⟩:=t.at' ok hw ht i hi
 have hk:s.mem.kAt (Fw Z.O fw w / 8+i)≠3:=by rw[a3];exact h3
 rcases t.get a1 with⟨q1,q2⟩ | ⟨_,q1,q2⟩
 ·rw[if_neg hk]at q1
  exact⟨⟨(t.S.ok.seg _).words _,t.S.sound.good _ a4 (by rw[a5];exact h3),q2 hk⟩,q1⟩
 ·exact absurd ⟨by rw[<-a3];exact q1,q2⟩ hs
theorem Traced.inj{tr:Tr}{s':Sp}{m:Mem}(t:Traced Z g F0 fw al sz tr s s' m){v v':Int}(h:GW Z fw v)(h':GW Z fw v')(e:Fw Z.O fw v=Fw Z.O fw v'):v=v':=by
 have S:=t.S
 have key: ∀u u',GW Z fw u->GW Z fw u'->isOldW Z.O u-> ¬isOldW Z.O u'->Fw Z.O fw u≠Fw Z.O fw u':=λu u' hu hu' ho hno' e=>by
  obtain⟨b,hb⟩:=hu.2.2 ho
  have im:=(t.tri.img _ _ hb).2
  rw[Fw_some ho hb,Fw_no hno']at e
  have ht':isTag u':=by
   have:=old_tag ho
   unfold isTag at*
   rw[<-e];omega
  have hu8:u' / 8=b:=by rw[<-e];omega
  obtain⟨r1,_⟩:=S.sound.used _ (hu'.2.1.2 ht').1
  rw[hu8]at r1
  have hz:=S.oldWord hu.2.1 ho
  have:=im.new 0 (by omega)
  exact this (by simpa using r1)
 by_cases ho:isOldW Z.O v<;>by_cases ho':isOldW Z.O v'
 ·obtain⟨b,hb⟩:=h.2.2 ho
  obtain⟨b',hb'⟩:=h'.2.2 ho'
  rw[Fw_some ho hb,Fw_some ho' hb']at e
  have eb:b=b':=by omega
  subst eb
  have:=t.tri.inj _ _ _ hb hb'
  omega
 ·exact absurd e (key v v' h h' ho ho')
 ·exact absurd e.symm (key v' v h' h ho' ho)
 ·rw[Fw_no ho,Fw_no ho']at e;exact e
end

theorem told_as{m:Mem}{held:List Int}{g:Int}{lost:Bool}{w n:Int}(h: ¬(w % 8=2/\n=0/\lost=true)):m.told held g lost w n=m.read (w / 8+n):=by
 unfold Mem.told
 rw[if_neg (show ¬m.lostW held g lost w n _ from λq=>h ⟨q.1,q.2.1,q.2.2.1⟩)]
section
variable {Z:TZ} {g F0:Int} {fw:Int->Option Int} {al:List Int} {s s':Sp} {sz:Int->Nat}
theorem Traced.sim{tr:Tr}{m:Mem}(t:Traced Z g F0 fw al sz tr s s' m)(B:BrokeX Z fw s s')(ok:MemOK m){held held':List Int}{gl gl':Int}{lost:Bool}
  (hwk: ∀w,IsWord w->Good Z.m Z.sz w->isTag w->w % 8=2->Z.m.told held gl lost w 0=if isOldW Z.O (Z.m.get (w / 8))/\fw (Z.m.get (w / 8) / 8)=none then 44 else Z.m.get (w / 8)):
  Sim Z.m held gl lost m held' gl' false (Fw Z.O fw) (GW Z fw):=by
 have S:=t.S
 have hfw: ∀v,GW Z fw v->IsWord (Fw Z.O fw v):=λv h=>t.tri.fw_word S h.1
 have hmod: ∀v,GW Z fw v->Fw Z.O fw v % 8=v % 8:=λv h=>(t.good h.1 h.2.1 h.2.2).2.2
 have htag: ∀v,GW Z fw v->isTag v->isTag (Fw Z.O fw v):=λv h ht=>by unfold isTag at*;rw[hmod v h];exact ht
 have hZ: ∀v,GW Z fw v->isTag v->Z.m.sizeOf v=Z.sz (v / 8):=λv h ht=>S.sound.size S.ok h.1 h.2.1 ht
 have hsize: ∀v,GW Z fw v->m.sizeOf (Fw Z.O fw v)=Z.m.sizeOf v:=λv h=>by
  by_cases ht:isTag v
  ·obtain⟨g1,g2,_⟩:=t.good h.1 h.2.1 h.2.2
   rw[t.sound.size ok (hfw v h) g1 (htag v h ht),(g2 ht).2.1,hZ v h ht]
  ·rw[sizeOf_no ht,sizeOf_no (λq=>ht (by unfold isTag at*;rw[hmod v h]at q;exact q))]
 have hno: ∀v,GW Z fw v->Z.m.sizeOf v=0-> ¬isTag v:=λv h h0 ht=>by
  rw[hZ v h ht]at h0
  exact(h.2.1.2 ht).1 (by omega)
 have hraw: ∀w,GW Z fw w->Z.m.sizeOf w≠0->(m.rawT (Fw Z.O fw w) ↔ Z.m.rawT w):=λw h hs=>by
  have ht:=thing_tag hs
  obtain⟨g1,g2,_⟩:=t.good h.1 h.2.1 h.2.2
  rw[t.sound.rawT ok (hfw w h) g1 (htag w h ht),S.sound.rawT S.ok h.1 h.2.1 ht,(g2 ht).2.2.1]
 have hrd: ∀w,GW Z fw w->Z.m.sizeOf w≠0-> ∀i:Nat,i<Z.sz (w / 8)->m.told held' gl' false (Fw Z.O fw w) i=m.get (Fw Z.O fw w / 8+i):=λw h hs i hi=>by
  rw[told_as (λq=>by cases q.2.2)]
  unfold Mem.read
  rw[if_pos (t.at' ok h (thing_tag hs) i hi).2.1]
 refine⟨hsize,λv h h0=>Fw_no (λq=>hno v h h0 (old_tag q)),λv v' h h' e=>t.inj h h' e,λw h hs=>⟨hmod w h,hraw w h hs⟩,λw h hs hr i hi=>?_,λw h hs hr i hi=>?_⟩
 ·have ht:=thing_tag hs
  have hkr:0<=Z.m.kAt (w / 8)/\Z.m.kAt (w / 8)<=3:=(S.ok.seg _).kind
  have h3:=(S.sound.rawT S.ok h.1 h.2.1 ht).1 hr
  have h83:w % 8=3:=by rw[(h.2.1.2 ht).2];exact(tagK_two hkr).2.2 (by omega)
  have hiz:i<Z.sz (w / 8):=by have:=hZ w h ht;omega
  rw[hrd w h hs i hiz,told_as (λq=>by have:=q.1;omega),(S.sound.at_ S.ok h.2.1 ht hiz).2.1]
  obtain⟨a1,a2,a3,_⟩:=t.at' ok h ht i hiz
  rcases t.get a1 with⟨q,_⟩ | ⟨_,q,_⟩
  ·rw[q,if_pos (by rw[a3];exact h3)]
  ·rw[a3,h3]at q;exact absurd q (by decide)
 ·have ht:=thing_tag hs
  have hkr:0<=Z.m.kAt (w / 8)/\Z.m.kAt (w / 8)<=3:=(S.ok.seg _).kind
  obtain⟨d1,d2⟩:=h.2.1.2 ht
  have h3:Z.m.kAt (w / 8)≠3:=λq=>hr ((S.sound.rawT S.ok h.1 h.2.1 ht).2 q)
  have hiz:i<Z.sz (w / 8):=by have:=hZ w h ht;omega
  obtain⟨g1,g2,_⟩:=t.good h.1 h.2.1 h.2.2
  obtain⟨u1,u2,u3,u4⟩:=g2 ht
  have hev:Z.m.kAt (w / 8)=1->Z.sz (w / 8)=2/\Fw Z.O fw w / 8 % 2=0:=λe=>by
   refine⟨(S.sound.two _ d1 (by omega)).1,(t.sound.two _ (by rw[u2];exact d1) (by rw[u3];omega)).2⟩
  rw[hrd w h hs i hiz]
  obtain⟨a1,a2,a3,a4,a5⟩:=t.at' ok h ht i hiz
  by_cases hc:w % 8=2/\i=0
  ·obtain⟨h8,rfl⟩:=hc
   have hk1:Z.m.kAt (w / 8)=1:=(tagK_two hkr).1.1 (by rw[<-d2];exact h8)
   have e0: ∀z:Int,z+((0:Nat):Int)=z:=λz=>by omega
   have k0:((0:Nat):Int)=0:=rfl
   rw[e0,e0]at a1
   rw[e0]at a3 a2 a4⊢
   rw[k0,hwk w h.1 h.2.1 ht h8]
   obtain⟨ho,hO⟩:=t.tri.usedOf a1
   have hx:=B.exact _ _ ho hO (by rw[a3];exact hk1) (hev hk1).2 a1
   rw[(t.ended.get hO).1,hx]
   by_cases q:isOldW Z.O (Z.m.get (w / 8))/\fw (Z.m.get (w / 8) / 8)=none
   ·rw[if_pos q,if_pos q]
    exact⟨⟨by decide,⟨by decide,λh=>absurd h (by decide)⟩,λo=>absurd o (not_old44 _)⟩,(Fw_no (not_old44 _)).symm⟩
   ·rw[if_neg q,if_neg q]
    refine⟨⟨(S.ok.seg _).words _,S.sound.good _ a4 h3,λo=>?_⟩,rfl⟩
    cases hf:fw (Z.m.get (w / 8) / 8)with
    | none=>exact absurd ⟨o,hf⟩ q
    | some b=>exact⟨b,rfl⟩
  ·rw[told_as (λq=>hc ⟨q.1,by have:=q.2.1;omega⟩),(S.sound.at_ S.ok h.2.1 ht hiz).2.1]
   refine t.gw_at ok h ht hiz h3 (λq=>?_)
   obtain⟨q1,q2⟩:=q
   obtain⟨z2,zev⟩:=hev q1
   exact hc ⟨by rw[d2];exact(tagK_two hkr).1.2 q1,by omega⟩
theorem Traced.lost{tr:Tr}{m:Mem}(t:Traced Z g F0 fw al sz tr s s' m){roots held:List Int}(hV: ∀v,Z.V v ↔ v∈roots)(h:Held Z.m g roots held): ∀w,IsWord w->Good Z.m Z.sz w->isTag w->w % 8=2->Z.m.told held g true w 0=if isOldW Z.O (Z.m.get (w / 8))/\fw (Z.m.get (w / 8) / 8)=none then 44 else Z.m.get (w / 8):=by
 intro w hw hg ht h8
 have S:=t.S
 obtain⟨d1,d2⟩:=hg.2 ht
 have hkr:0<=Z.m.kAt (w / 8)/\Z.m.kAt (w / 8)<=3:=(S.ok.seg _).kind
 have hk1:Z.m.kAt (w / 8)=1:=(tagK_two hkr).1.1 (by rw[<-d2];exact h8)
 have z2:=(S.sound.two _ d1 (by omega)).1
 obtain⟨r1,r2,_⟩:=S.sound.at_ S.ok hg ht (k:=0) (by omega)
 have e0:w / 8+((0:Nat):Int)=w / 8+0:=rfl
 rw[e0]at r1 r2
 unfold Mem.told
 rw[r2]
 rw[Int.add_zero]at r1⊢
 have hv:IsWord (Z.m.get (w / 8)):=(S.ok.seg _).words _
 have hgv:Good Z.m Z.sz (Z.m.get (w / 8)):=S.sound.good _ r1 (by rw[hk1];decide)
 obtain⟨c1,c2⟩:=S.held hV h
 generalize Z.m.get (w / 8)=v at*
 have hiff:Z.m.lostW held g true w 0 v ↔ isOldW Z.O v/\fw (v / 8)=none:=by
  unfold Mem.lostW
  rw[S.gen hv hgv]
  constructor
  ·rintro⟨_,_,_,q1,q2,q3⟩
   refine⟨⟨q1,q2⟩,?_⟩
   have ho:=(S.gen hv hgv).2 ⟨q1,q2⟩
   cases hf:fw (v / 8)with
   | none=>rfl
   | some b=>exact absurd (c2 v hv hgv (old_tag ho) (t.tri.reach _ _ hf)) q3
  ·rintro⟨⟨q1,q2⟩,q3⟩
   refine⟨h8,rfl,rfl,q1,q2,λhm=>?_⟩
   have ho:=(S.gen hv hgv).2 ⟨q1,q2⟩
   obtain⟨b,hb⟩:=t.fin.reach S t.tri t.roots ((c1 v hm).2.2.2 ho)
   rw[hb]at q3;cases q3
 by_cases q:isOldW Z.O v/\fw (v / 8)=none
 ·rw[if_pos q,if_pos (hiff.2 q)]
 ·rw[if_neg q,if_neg (λr=>q (hiff.1 r))]
theorem Traced.heldSum{tr:Tr}{m:Mem}(t:Traced Z g F0 fw al sz tr s s' m){roots all:List Int}(hV: ∀v,Z.V v ↔ v∈roots)(h:Held Z.m g roots all):((all.filter λw=>decide (isOldW Z.O w)).map Z.m.sizeOf).sum=((al.map Z.sz).sum:Nat):=by
 have S:=t.S
 obtain⟨h1,h2⟩:=S.held hV h
 have hin: ∀w,w∈(all.filter λw=>decide (isOldW Z.O w)) ↔ w∈all/\isOldW Z.O w:=λw=>by rw[List.mem_filter,decide_eq_true_eq]
 have hp:((all.filter λw=>decide (isOldW Z.O w)).map (· / 8)).Perm al:=by
  rw[List.perm_ext_iff_of_nodup _ t.tri.olds.nodup]
  ·intro a
   rw[t.tri.al,List.mem_map]
   constructor
   ·rintro⟨w,hw,rfl⟩
    obtain⟨w1,w2⟩:=(hin w).1 hw
    exact t.fin.reach S t.tri t.roots ((h1 w w1).2.2.2 w2)
   ·rintro⟨b,hb⟩
    have hr:=t.tri.reach a b hb
    have hsa:=t.tri.olds.mem a ((t.tri.al a).2 ⟨b,hb⟩)
    have hkr:0<=Z.m.kAt a/\Z.m.kAt a<=3:=(S.ok.seg _).kind
    obtain⟨u1,u2⟩:=S.sound.used a hsa.1
    have hlt:=S.lt u1
    have htk:tagK (Z.m.kAt a)=1\/tagK (Z.m.kAt a)=2\/tagK (Z.m.kAt a)=3:=by
     unfold tagK
     split
     ·exact .inl rfl
     ·split
      ·exact .inr (.inl rfl)
      ·exact .inr (.inr rfl)
    have e8:(a*8+tagK (Z.m.kAt a)) / 8=a:=by omega
    have em:(a*8+tagK (Z.m.kAt a)) % 8=tagK (Z.m.kAt a):=by omega
    have hw:IsWord (a*8+tagK (Z.m.kAt a)):=by unfold IsWord;omega
    have ht:isTag (a*8+tagK (Z.m.kAt a)):=by unfold isTag;rw[em];exact htk
    have hg:Good Z.m Z.sz (a*8+tagK (Z.m.kAt a)):=⟨by rw[em];omega,λ_=>by rw[e8];exact⟨hsa.1,em⟩⟩
    have hm:=h2 _ hw hg ht (by rw[e8];exact hr)
    refine⟨_,(hin _).2 ⟨hm,⟨by unfold isAddr;rw[em,e8];omega,hg.1,by rw[e8];exact hsa.2⟩⟩,e8⟩
  ·unfold List.Nodup
   rw[List.pairwise_map]
   refine List.Pairwise.imp_of_mem (λ{a b} ha hb hne e=>hne ?_) (h.alls.nodup.sublist List.filter_sublist)
   obtain⟨a1,_⟩:=(hin a).1 ha
   obtain⟨b1,_⟩:=(hin b).1 hb
   obtain⟨_,a2,a3,_⟩:=h1 a a1
   obtain⟨_,b2,b3,_⟩:=h1 b b1
   have e1:=(a2.2 a3).2
   have e2:=(b2.2 b3).2
   rw[e]at e1
   omega
 rw[<-perm_sum Z.sz hp,List.map_map]
 have: ∀l:List Int,(∀w∈l,w∈all)->(l.map Z.m.sizeOf).sum=((l.map (Z.sz ∘ (· / 8))).sum:Nat):=λl=>by
  induction l with
  | nil=>intro _;rfl
  | cons w l ih=>
   intro hl
   obtain⟨w1,w2,w3,_⟩:=h1 w (hl w (by simp))
   simp only[List.map_cons,List.sum_cons,ih (λv hv=>hl v (by simp[hv])),Function.comp]
   rw[S.sound.size S.ok w1 w2 w3]
   omega
 exact this _ (λw hw=>((hin w).1 hw).1)
end

section
variable {s0 s3 s4 s5:Sp} {sz0 sz:Int->Nat} {g T:Int} {tr:Tr} {roots young:List Int} {fw:Int->Option Int} {al:List Int}
theorem Colled.gw(C:Colled s0 sz0 g T tr roots young fw al sz s3 s4 s5): ∀v∈roots,GW ⟨s0.mem,sz0,tr.old,T,(· ∈roots)⟩ fw v:=λv hv=>by
 obtain⟨h1,h2⟩:=C.t.S.V v hv
 exact⟨h1,h2,C.t.roots v hv⟩
theorem Colled.picShape(C:Colled s0 sz0 g T tr roots young fw al sz s3 s4 s5){held held':List Int}{gl':Int}{ks ks':List Kn}(h:Held s0.mem g roots held)(p:IsPic s0.mem held g true roots ks)(p':IsPic s5.mem held' gl' false young ks'):ks'=ks:=by
 have Sm:=C.t.sim C.brk C.inv.ok.mem (held:=held) (held':=held') (gl:=g) (gl':=gl') (lost:=true) (C.t.lost (λv=>Iff.rfl) h)
 refine Sm.pic C.gw p ?_
 rw[<-C.yg];exact p'
theorem Colled.img(C:Colled s0 sz0 g T tr roots young fw al sz s3 s4 s5){a b:Int}(h:fw a=some b):sz0 a≠0/\szE tr.old sz b=sz0 a/\(∀i:Nat,i<sz0 a->s5.mem.used (b+i)/\s5.mem.kAt (b+i)=s0.mem.kAt a/\s3.mem.kAt (b+i)=s0.mem.kAt a/\(b+i) / 64=b / 64)/\s5.mem.gAt b=T/\(s0.mem.kAt a<=1->b % 2=0)/\0<=b/\b<65536:=by
 have t:=C.t
 have S:=t.S
 obtain⟨e2,im⟩:=t.tri.img a b h
 have hsa:sz0 a≠0:=(t.tri.olds.mem a ((t.tri.al a).2 ⟨b,h⟩)).1
 have hf:b % 64+(sz0 a:Nat)<=64/\0<=b:=im.fit
 have hout:tr.old (b / 64).toNat=false:=im.out
 have hdiv: ∀i:Nat,i<sz0 a->(b+(i:Int)) / 64=b / 64:=λi hi=>by omega
 have hum: ∀i:Nat,i<sz0 a->s5.mem.used (b+i):=λi hi=>t.used.2 ⟨im.here i hi,by rw[hdiv i hi];exact hout⟩
 have hk3: ∀i:Nat,i<sz0 a->s3.mem.kAt (b+i)=s0.mem.kAt a:=λi hi=>by
  have:s3.mem.kAt b=s0.mem.kAt a:=im.kind
  rw[<-this];unfold Mem.kAt;rw[hdiv i hi]
 have h0:=hum 0 (by omega)
 rw[show b+((0:Nat):Int)=b by omega]at h0
 have hlim:=C.inv.ok.mem.lim
 have hl1:=h0.2.1.2.1
 refine⟨hsa,?_,λi hi=>⟨hum i hi,?_,hk3 i hi,hdiv i hi⟩,?_,im.even,hf.2,?_⟩
 ·unfold szE;rw[if_neg (by rw[hout];decide)];exact e2
 ·rw[(t.kind (hum i hi)).1,hk3 i hi]
 ·rw[(t.kind h0).2];exact im.gen
 ·omega
end

section
variable {s0 s3 s4 s5 s3' s4' s5':Sp} {sz0 sz sz':Int->Nat} {g:Int} {tr tr':Tr} {roots young young':List Int} {fw fw':Int->Option Int} {al al':List Int}
theorem Colled.came(C:Colled s0 sz0 g g tr roots young fw al sz s3 s4 s5)(C':Colled s5 (szE tr.old sz) g g tr' young young' fw' al' sz' s3' s4' s5'){b:Int}(h:szE tr.old sz b≠0)(ho:tr'.old (b / 64).toNat=true): ∃a,fw a=some b:=by
 have S':=C'.t.S
 obtain⟨a,h1,h2,h3,h4,h5,h6,(⟨rfl,u0,o0⟩ | hb)⟩:=C.t.thing h
 ·exfalso
  have hu:=(h5 0 (by omega)).1
  rw[show a+((0:Nat):Int)=a by omega]at hu
  have e1:s5.mem.gAt a=s3.mem.gAt a:=(C.t.kind hu).2
  have e2:s3.mem.gAt a=s0.mem.gAt a:=(C.t.tri.kAt u0).2
  have e3:=(C.t.S.older u0).1 o0
  have e4:=(S'.older hu).2 (by
   show g<s5.mem.gAt a
   rw[e1,e2];exact e3)
  have e5:tr'.old (a / 64).toNat=false:=e4
  rw[ho]at e5;cases e5
 ·exact⟨a,hb⟩
theorem Colled.old2(C:Colled s0 sz0 g g tr roots young fw al sz s3 s4 s5)(C':Colled s5 (szE tr.old sz) g g tr' young young' fw' al' sz' s3' s4' s5'){v b:Int}(ho:isOldW tr.old v)(h:fw (v / 8)=some b):isOldW tr'.old (Fw tr.old fw v)/\Fw tr.old fw v / 8=b:=by
 obtain⟨h1,h2,h3,h4,h5,h6,h7⟩:=C.img h
 have ht:=old_tag ho
 unfold isTag at ht
 have e:=Fw_some ho h
 have e8:Fw tr.old fw v / 8=b:=by omega
 have em:Fw tr.old fw v % 8=v % 8:=by omega
 refine⟨⟨by unfold isAddr;rw[em,e8];omega,by omega,?_⟩,e8⟩
 rw[e8]
 have hu:=(h3 0 (by omega)).1
 rw[show b+((0:Nat):Int)=b by omega]at hu
 cases q:tr'.old (b / 64).toNat with
 | true=>rfl
 | false=>
  have:g<s5.mem.gAt b:=(C'.t.S.older hu).1 q
  omega
theorem Colled.reach2(C:Colled s0 sz0 g g tr roots young fw al sz s3 s4 s5)(C':Colled s5 (szE tr.old sz) g g tr' young young' fw' al' sz' s3' s4' s5'){a:Int}(h:Reach ⟨s0.mem,sz0,tr.old,g,(· ∈roots)⟩ a): ∀b,fw a=some b->Reach ⟨s5.mem,szE tr.old sz,tr'.old,g,(· ∈young)⟩ b:=by
 have t:=C.t
 have S:=t.S
 induction h with
 | @root v hv ho=>
  intro b hb
  obtain⟨o2,e2⟩:=C.old2 C' ho hb
  have hm:Fw tr.old fw v∈young:=by rw[C.yg];exact List.mem_map_of_mem hv
  have:=Reach.root (Z:=⟨s5.mem,szE tr.old sz,tr'.old,g,(· ∈young)⟩) hm o2
  rw[e2]at this;exact this
 | @older x hu hn hs ho=>
  intro b hb
  obtain⟨o2,e2⟩:=C.old2 C' ho hb
  have hk3:s3.mem.kAt x=s0.mem.kAt x:=(t.tri.kAt hu).1
  have hg3:s3.mem.gAt x=s0.mem.gAt x:=(t.tri.kAt hu).2
  have hu5:s5.mem.used x:=t.used.2 ⟨t.tri.heads.used hu,hn⟩
  obtain⟨k5,g5⟩:=t.kind hu5
  have hst:s0.mem.strong x:=hs
  unfold Mem.strong at hst
  have hget:s5.mem.get x=Fw tr.old fw (s0.mem.get x):=by
   rcases t.get (x:=x) (.inl ⟨hu,hn,rfl⟩)with⟨q,_⟩ | ⟨_,q1,q2⟩
   ·rw[q,if_neg (by rw[hk3];exact hst.1)]
   ·rw[hk3]at q1
    rcases hst.2 with r | r
    ·exact absurd q1 r
    ·omega
  have hn5:tr'.old (x / 64).toNat=false:=(C'.t.S.older hu5).2 (by
   show g<s5.mem.gAt x
   rw[g5,hg3];exact(S.older hu).1 hn)
  have hs5:s5.mem.strong x:=by unfold Mem.strong;rw[k5,hk3];exact hst
  have:=Reach.older (Z:=⟨s5.mem,szE tr.old sz,tr'.old,g,(· ∈young)⟩) hu5 hn5 hs5 (by show isOldW tr'.old (s5.mem.get x);rw[hget];exact o2)
  rw[show(TZ.m ⟨s5.mem,szE tr.old sz,tr'.old,g,(· ∈young)⟩).get x=Fw tr.old fw (s0.mem.get x)from hget,e2]at this
  exact this
 | @step a i hr hi hs ho ih=>
  intro b hb
  obtain⟨b0,hb0⟩:=t.fin.reach S t.tri t.roots hr
  obtain⟨o2,e2⟩:=C.old2 C' ho hb
  obtain⟨i1,i2,i3,i4,i5,i6,i7⟩:=C.img hb0
  obtain⟨j1,j2,j3,j4⟩:=i3 i hi
  have hai:=S.sound.usedAt i1 hi (λk=>(S.ok.seg k).n.2)
  have hka:s0.mem.kAt (a+i)=s0.mem.kAt a:=by unfold Mem.kAt;rw[hai.2.1]
  have hst:s0.mem.strong (a+i):=hs
  unfold Mem.strong at hst
  rw[hka]at hst
  have htwo:s0.mem.kAt a=1->a % 2=0/\b0 % 2=0:=λe=>⟨(S.sound.two a i1 (by show s0.mem.kAt a<=1;omega)).2,i5 (by omega)⟩
  have hst5:s0.mem.kAt a≠3/\(s0.mem.kAt a≠1\/(b0+(i:Int)) % 2=1):=by
   refine⟨hst.1,?_⟩
   rcases hst.2 with r | r
   ·exact .inl r
   ·by_cases e:s0.mem.kAt a=1
    ·have:=htwo e;right;omega
    ·exact .inl e
  have hget:s5.mem.get (b0+i)=Fw tr.old fw (s0.mem.get (a+i)):=by
   rcases t.get (x:=b0+i) (.inr ⟨a,b0,i,hb0,hi,rfl,rfl⟩)with⟨q,_⟩ | ⟨_,q1,q2⟩
   ·rw[q,if_neg (by rw[j3];exact hst.1)]
   ·rw[j3]at q1
    rcases hst5.2 with r | r
    ·exact absurd q1 r
    ·omega
  have hs5:s5.mem.strong (b0+i):=by unfold Mem.strong;rw[j2];exact hst5
  have:=Reach.step (Z:=⟨s5.mem,szE tr.old sz,tr'.old,g,(· ∈young)⟩) (i:=i) (ih b0 hb0) (by show i<szE tr.old sz b0;rw[i2];exact hi) hs5 (by show isOldW tr'.old (s5.mem.get (b0+i));rw[hget];exact o2)
  rw[show(TZ.m ⟨s5.mem,szE tr.old sz,tr'.old,g,(· ∈young)⟩).get (b0+i)=Fw tr.old fw (s0.mem.get (a+i))from hget,e2]at this
  exact this
theorem Colled.again(C:Colled s0 sz0 g g tr roots young fw al sz s3 s4 s5)(C':Colled s5 (szE tr.old sz) g g tr' young young' fw' al' sz' s3' s4' s5')(b:Int):(∃a,fw a=some b) ↔ ∃c,fw' b=some c:=by
 constructor
 ·rintro⟨a,h⟩
  exact C'.t.fin.reach C'.t.S C'.t.tri C'.t.roots (C.reach2 C' (C.t.tri.reach a b h) b h)
 ·rintro⟨c,h⟩
  obtain⟨h1,h2⟩:=C'.t.tri.olds.mem b ((C'.t.tri.al b).2 ⟨c,h⟩)
  exact C.came C' h1 h2
end
