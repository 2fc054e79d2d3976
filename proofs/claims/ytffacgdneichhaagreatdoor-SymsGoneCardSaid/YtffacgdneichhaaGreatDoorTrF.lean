/-
  What was copied is looked at (package trace): look, Cards. Proves nothing of any one statement.
-/
import Derived.Test.YtffacgdneichhaaGreatDoorTrB
import Derived.Test.YtffacgdneichhaaGreatDoorWords
import Derived.Test.YtffacgdneichhaaGreatDoorFcardx
set_option linter.unusedVariables false
set_option linter.unusedSimpArgs false
namespace Go.Proofs.YtffacgdneichhaaGreatDoor
open Go

theorem Sp.moved_cf(m:Mem)(w:Int)(r:Sp×Int×Int):(Sp.moved m w r).cf=r.1.cf:=by
  unfold Sp.moved Sp.cf
  have h1:=bD.sets (m.row (w / 8) (m.sizeOf w).toNat) r.1.mem r.2.1
  have h2:=bD.set (r.1.mem.sets r.2.1 (m.row (w / 8) (m.sizeOf w).toNat)) (w / 8) (r.2.1*8+6)
  simp only[]
  rw[h2.count,h2.free,h1.count,h1.free]
theorem Sp.visit_cf(s:Sp)(old:Nat->Bool)(T w:Int):(s.visit old T w).1.cf=s.cf:=by
  unfold Sp.visit
  split
  · rfl
  split
  · rfl
  split
  · rfl
  split
  · show(Sp.moved _ _ _).cf=_
    rw[Sp.moved_cf,Sp.alloc_cf]
  · rfl
theorem Mem.size_kind{m:Mem}{w:Int}(h:m.sizeOf w≠0):(m.kindOf w=0\/m.kindOf w=1)/\m.sizeOf w=2\/(m.kindOf w=2\/m.kindOf w=3):=by
  unfold Mem.sizeOf Mem.kindOf at*
  by_cases hp:m.isPair w
  · rw[if_pos hp]
    rcases hp.1 with q | q
    · exact .inl ⟨.inl q.2.2.2.1,rfl⟩
    · exact .inl ⟨.inr q.2.2.2.1,rfl⟩
  · rw[if_neg hp]at h
    by_cases ho:m.isObj w
    · have:=ho.1.2.2.2.1
      right
      unfold rawK at this
      split at this<;>omega
    · rw[if_neg ho]at h;exact absurd rfl h
theorem Sp.visit_even{s:Sp}(ok:SpOK s)(he:s.mem.Even)(old:Nat->Bool)(T w:Int):(s.visit old T w).1.mem.Even:=by
  unfold Sp.visit
  split
  · exact he
  split
  · exact he
  split
  · exact he
  rename_i h0
  split
  · rename_i ha
    obtain⟨_,gr⟩:=Sp.alloc_ok ok ha
    have h1:=(gr.even he (λhk=>by rcases Mem.size_kind h0 with q | q<;>omega)).1
    exact(bD.set _ _ _).even ((bD.sets _ _ _).even h1)
  · exact he
theorem Sp.visit_word{s:Sp}(ok:SpOK s){old:Nat->Bool}{T w:Int}(hw:aJ w):aJ (s.visit old T w).2:=by
  unfold Sp.visit
  split
  · exact hw
  split
  · rename_i v hf
    unfold Mem.fwd at hf
    split at hf
    · rename_i hh
      have h1:=hh.2.1.2
      have h2:=((ok.mem.seg (w / 8 / 64).toNat).words (w / 8 % 64).toNat).1
      have h3:s.mem.get (w / 8)=(s.mem.seg (w / 8 / 64).toNat).words (w / 8 % 64).toNat:=rfl
      simp only[Option.some.injEq]at hf
      have h4:=hw.1
      rw[h3]at h1 hf
      generalize (s.mem.seg (w / 8 / 64).toNat).words (w / 8 % 64).toNat=g at h1 h2 hf
      rw[<-hf]
      exact⟨by omega,by omega⟩
    · cases hf
  split
  · exact hw
  split
  · rename_i ha
    obtain⟨_,gr⟩:=Sp.alloc_ok ok ha
    have hl:=ok.mem.lim
    obtain⟨a0,a1,a2⟩:=gr.addr
    have:=hw.1
    exact⟨by simp only[];omega,by simp only[];omega⟩
  · exact hw

structure Tg (H:zV) (b:Blk) (x:Hp) (q:TB) (t:Tr):Prop extends Tc H b x q t where
  even:x.sp.mem.Even
  cf:x.sp.cf<4611686018427387904
  on:t.over=false
theorem Tg.grow{H H':zV}{b:Blk}{x:Hp}{q:TB}{t:Tr}(h:Tg H b x q t)(e:Ext H H'):Tg H' b x q t:=⟨h.toTc.ext e,h.even,h.cf,h.on⟩
theorem Tg.stay{S:List Nat}{H H':zV}{b:Blk}{x:Hp}{q:TB}{t:Tr}(h:Tg H b x q t)(f:Fr S H H')(h1: ∀i,i∈S->i ∉ b.all)(h2: ∀i,i∈S->i ∉ q.all):Tg H' b x q t:=⟨h.toTc.keep f h1 h2,h.even,h.cf,h.on⟩
theorem Tg.lt{H:zV}{b:Blk}{x:Hp}{q:TB}{t:Tr}(h:Tg H b x q t){i:Nat}(hi:i∈b.all\/i∈q.all):i<H.size:=by
  rcases hi with hi | hi
  · exact h.hp.lt i hi
  · exact h.tr.lt i hi
theorem iZ{H:zV}{b:Blk}{x:Hp}{q:TB}{t:Tr}{w:Int}(T:Tg H b x q t)(hw:aJ w):
    aW.C (some ⟨q.t,0,none⟩) w H (λv H'=>v=.int .u64 (x.sp.visit t.old t.tgt w).2/\Tg H' b {x with sp:=(x.sp.visit t.old t.tgt w).1} q t/\Fr (spB b) H H'):=
  HC.mono (oY T.toTc T.even hw (Sp.cf_count T.ok T.cf) T.on) (λ_ _ h=>⟨h.1,⟨h.2.1,Sp.visit_even T.ok T.even _ _ _,by show(x.sp.visit t.old t.tgt w).1.cf<_;rw[Sp.visit_cf];exact T.cf,T.on⟩,h.2.2⟩)

def Mem.read(m:Mem)(a:Int):Int:=if m.used a then m.get a else 0
def Mem.wr(m:Mem)(a w:Int):Mem:=if m.used a then m.set a w else m
theorem Mem.read_word{m:Mem}(ok:aY m)(a:Int):aJ (m.read a):=by
  unfold Mem.read
  split
  · exact(ok.seg _).words _
  · decide
theorem bD.wr(m:Mem)(a w:Int):bD m (m.wr a w):=by
  unfold Mem.wr
  split
  · exact bD.set m a w
  · exact bD.refl m
theorem SpOK.wr{s:Sp}(ok:SpOK s)(a:Int){w:Int}(hw:aJ w):SpOK {s with mem:=s.mem.wr a w}:=
  ok.withMem (by unfold Mem.wr; split; · exact ok.mem.set a hw
                 · exact ok.mem) (λk h=>(bD.wr _ _ _).has.2 h) (λk=>⟨((bD.wr _ _ _).seg k).1,((bD.wr _ _ _).seg k).2.1⟩)
def Sp.lookAt(s:Sp)(old:Nat->Bool)(T a:Int):Sp:=
  {(s.visit old T (s.mem.read a)).1 with mem:=(s.visit old T (s.mem.read a)).1.mem.wr a (s.visit old T (s.mem.read a)).2}
theorem Sp.lookAt_even{s:Sp}(ok:SpOK s)(he:s.mem.Even)(old:Nat->Bool)(T a:Int):(s.lookAt old T a).mem.Even:=
  (bD.wr _ _ _).even (Sp.visit_even ok he old T _)
theorem Sp.lookAt_cf(s:Sp)(old:Nat->Bool)(T a:Int):(s.lookAt old T a).cf=s.cf:=by
  have h:=bD.wr (s.visit old T (s.mem.read a)).1.mem a (s.visit old T (s.mem.read a)).2
  have:(s.lookAt old T a).cf=(s.visit old T (s.mem.read a)).1.cf:=by
    unfold Sp.lookAt Sp.cf;simp only[];rw[h.count,h.free]
  rw[this,Sp.visit_cf]
set_option maxRecDepth 100000 in
theorem o9{H:zV}{b:Blk}{x:Hp}{q:TB}{t:Tr}{a:Int}{c:Nat}(T:Tg H b x q t)(ha:I64 a)(hc:hat H ⟨c,0,none⟩=some (.pointer (some ⟨q.t,0,none⟩)))(hcb:c ∉ spB b):
    cJ.C a (some ⟨c,0,none⟩) H (λ_ H'=>Tg H' b {x with sp:=x.sp.lookAt t.old t.tgt a} q t/\Fr (spB b) H H'):=by
  refine HC.via λR hR=>cJ.link ?_
  unfold cJ.pt
  obtain⟨p1,p2,p3,p4⟩:=T.s1
  refine⟨_,rfl,_,hc,_,rfl,_,p1,_,rfl,_,p2,_,rfl,_,p3,_,rfl,_,p4,?_⟩
  refine HC.mono (fJ T.hp.cd.sp.mem T.ok.mem (by omega)) ?_
  rintro _ H1 ⟨rfl,rfl⟩
  have hv: ∃e:Int,(if x.sp.mem.used a then Value.tuple #[.int .u64 (x.sp.mem.get a),.int .i64 0]else .tuple #[.int .u64 0,.int .i64 18])=.tuple #[.int .u64 (x.sp.mem.read a),.int .i64 e]:=by
    unfold Mem.read
    by_cases hu:x.sp.mem.used a
    · rw[if_pos hu,if_pos hu];exact⟨_,rfl⟩
    · rw[if_neg hu,if_neg hu];exact⟨_,rfl⟩
  obtain⟨e,hv⟩:=hv
  refine⟨_,e,hv,_,hc,_,rfl,_,p1,_,rfl,_,p2,_,rfl,_,p3,_,rfl,_,p4,_,hc,?_⟩
  have hw:=Mem.read_word T.ok.mem a
  refine HC.mono (iZ T hw) ?_
  rintro _ H2 ⟨rfl,T2,f2⟩
  obtain⟨q1,q2,q3,q4⟩:=T2.s1
  have hc2:hat H2 ⟨c,0,none⟩=some (.pointer (some ⟨q.t,0,none⟩)):=f2.hat hcb hc
  refine⟨_,rfl,?_⟩
  simp only[aU,and_true,addr_add_mk,Nat.add_zero]
  refine⟨hc2,q1,q2,q3,q4,?_⟩
  have ok2:=T2.ok
  have ok3:=SpOK.wr ok2 a (Sp.visit_word T.ok (old:=t.old) (T:=t.tgt) hw)
  refine HC.mono (gz T2.hp.cd.sp.mem ok2.mem (by omega)) ?_
  rintro _ H3 ⟨rfl,hm3,f3⟩
  refine⟨_,rfl,hR _ _ ⟨⟨?_,Sp.lookAt_even T.ok T.even _ _ _,by show(x.sp.lookAt t.old t.tgt a).cf<_;rw[Sp.lookAt_cf];exact T.cf,T.on⟩,f2.trans (f3.mono (λi hi _=>by simp at hi;simp[spB];omega))⟩⟩
  exact T2.toTc.withMem (m:=(x.sp.visit t.old t.tgt (x.sp.mem.read a)).1.mem.wr a (x.sp.visit t.old t.tgt (x.sp.mem.read a)).2) f3 (λi hi=>by simp at hi;omega) hm3 ok3

def looks(kind i:Int):Prop:=kind≠3/\(kind≠1\/i % 2=1)
instance (kind i:Int):Decidable (looks kind i):=by unfold looks;infer_instance
def Sp.look(s:Sp)(old:Nat->Bool)(T seg kind lo:Int):Nat->Sp
  | 0=>s
  | n+1=>if looks kind (lo+n)then(s.look old T seg kind lo n).lookAt old T (seg*64+(lo+n))else s.look old T seg kind lo n
theorem Sp.look_raw(s:Sp)(old:Nat->Bool)(T seg lo:Int): ∀n,s.look old T seg 3 lo n=s
  | 0=>rfl
  | n+1=>by unfold Sp.look;rw[if_neg (λh=>h.1 rfl)];exact Sp.look_raw s old T seg lo n
set_option maxRecDepth 100000 in
theorem mS{H:zV}{b:Blk}{x:Hp}{q:TB}{t:Tr}{seg kind lo hi:Int}(T:Tg H b x q t)(hs:0<=seg/\seg<1024)(hl:0<=lo/\lo<=64)(hh:hi<=64):
    bQ.C (some ⟨q.t,0,none⟩) seg lo hi kind H (λ_ H'=>Tg H' b {x with sp:=x.sp.look t.old t.tgt seg kind lo (hi-lo).toNat} q t/\Fr (spB b) H H'):=by
  refine HC.via λR hR=>bQ.link ?_
  unfold bQ.pt zY
  intro c H1 hcb hH1
  have e1:Ext H H1:=Ext.push' hH1
  have g1:=aL hcb hH1
  have T1:=T.grow e1
  have hc1:hat H1 ⟨c,0,none⟩=some (.pointer (some ⟨q.t,0,none⟩)):=by rw[aT g1];rfl
  have hcn:c ∉ spB b:=λh=>by
    have:=T.lt (.inl (hX h));omega
  refine⟨λi H'=>(lo<=i/\i<=max lo hi)/\Tg H' b {x with sp:=x.sp.look t.old t.tgt seg kind lo (i-lo).toNat} q t/\Fr (spB b) H H'/\hat H' ⟨c,0,none⟩=some (.pointer (some ⟨q.t,0,none⟩)),λi _=>(hi-i).toNat,⟨⟨by omega,by omega⟩,by rw[Int.sub_self];exact T1,e1.fr,hc1⟩,?_⟩
  rintro i H2 ⟨hi',T2,f2,hc2⟩
  by_cases hend:i<hi/\kind≠3
  · rw[if_pos (by simp[hend.1,hend.2])]
    have hsn:(i+1-lo).toNat=(i-lo).toNat+1:=by omega
    have hli:lo+((i-lo).toNat:Int)=i:=by omega
    rw[iO (by omega:0<=i),w64 (n:=i+1) (by omega),w64 (n:=seg*64) (by omega),w64 (n:=seg*64+i) (by omega)]
    by_cases hk:kind≠1\/i % 2=1
    · rw[if_pos (by simpa using hk)]
      refine HC.mono (o9 T2 (by omega) hc2 hcn) ?_
      rintro _ H3 ⟨T3,f3⟩
      refine⟨⟨by omega,?_,f2.trans f3,f3.hat hcn hc2⟩,by show(hi-(i+1)).toNat< (hi-i).toNat;omega⟩
      have e:x.sp.look t.old t.tgt seg kind lo (i+1-lo).toNat=(x.sp.look t.old t.tgt seg kind lo (i-lo).toNat).lookAt t.old t.tgt (seg*64+i):=by
        rw[hsn];show(if _ then _ else _)=_;rw[hli,if_pos ⟨hend.2,hk⟩]
      rw[e];exact T3
    · rw[if_neg (by simpa using hk)]
      refine⟨⟨by omega,?_,f2,hc2⟩,by show(hi-(i+1)).toNat< (hi-i).toNat;omega⟩
      have e:x.sp.look t.old t.tgt seg kind lo (i+1-lo).toNat=x.sp.look t.old t.tgt seg kind lo (i-lo).toNat:=by
        rw[hsn];show(if _ then _ else _)=_;rw[hli,if_neg (λh=>hk h.2)]
      rw[e];exact T2
  · rw[if_neg (by simpa using hend)]
    have e:x.sp.look t.old t.tgt seg kind lo (hi-lo).toNat=x.sp.look t.old t.tgt seg kind lo (i-lo).toNat:=by
      by_cases h3:kind=3
      · rw[h3,Sp.look_raw,Sp.look_raw]
      · have: ¬i<hi:=λh=>hend ⟨h,h3⟩
        congr 1;omega
    rw[e]at hR
    exact hR _ _ ⟨T2,f2⟩

def Mem.segOr(m:Mem)(k:Int):Seg:=if m.has k then m.seg k.toNat else Seg.none
def Sp.lookCard(s:Sp)(old:Nat->Bool)(T:Int)(c:Int×Int):Sp:=
  s.look old T c.1 (s.mem.segOr c.1).kind (c.2*16) (min (s.mem.segOr c.1).n ((c.2+1)*16)-c.2*16).toNat
def Sp.lookCards(s:Sp)(old:Nat->Bool)(T:Int)(l:List (Int×Int)):Sp:=l.foldl (λs c=>s.lookCard old T c) s
theorem Sp.lookCards_snoc(s:Sp)(old:Nat->Bool)(T:Int)(l:List (Int×Int))(c:Int×Int):s.lookCards old T (l++[c])=(s.lookCards old T l).lookCard old T c:=by
  unfold Sp.lookCards;rw[List.foldl_append];rfl
theorem jI: ∀l:List (Int×Int),(df l).length=2*l.length
  | []=>rfl
  | c::l=>by
    have:=jI l
    unfold df at*
    rw[List.flatMap_cons,List.length_append,this];simp;omega
theorem jJ: ∀(l:List (Int×Int)) {i:Nat} (h:i<l.length),(df l)[2*i]?=some (.int .i64 l[i].1)/\(df l)[2*i+1]?=some (.int .i64 l[i].2)
  | c::l,0,h=>⟨rfl,rfl⟩
  | c::l,i+1,h=>by
    have:=jJ l (i:=i) (by simpa using h)
    unfold df at*
    rw[List.flatMap_cons]
    exact⟨this.1,this.2⟩
theorem lY{H:zV}{B:zW}{l:List (Int×Int)}(h:db H B (df l)){i:Nat}(hi:i<l.length): ∃a,B=some a/\aU H (a.add (i*2)) 0 [.int .i64 l[i].1,.int .i64 l[i].2]:=by
  cases B with
  | none=>
    have e:df l=[]:=h
    have:=jI l
    rw[e]at this;simp at this;omega
  | some a=>
    refine⟨a,rfl,?_⟩
    obtain⟨g1,g2⟩:=jJ l hi
    have h1:=fB (show aU H a 0 (df l)from h) _ _ g1
    have h2:=fB (show aU H a 0 (df l)from h) _ _ g2
    refine⟨?_,?_,trivial⟩
    · rw[gW];rw[show i*2+0=0+2*i by omega];exact h1
    · rw[gW];rw[show i*2+(0+1)=0+(2*i+1)by omega];exact h2
def kw(l:List (Int×Int)):Prop:= ∀c∈l,(0<=c.1/\c.1<1024)/\0<=c.2/\c.2<4

theorem lZ{m:Mem}(ok:aY m)(k:Int):pM (m.segOr k):=by
 unfold Mem.segOr
 split
 ·exact ok.seg _
 ·exact jN
theorem eO{H:zV}{bm bs:Nat}{m:Mem}{k:Int}(h:cK H bm bs m):
  bE.C (some ⟨bm,0,none⟩) k H (λv H'=>v=.tuple #[(m.segOr k).head,.bool (decide (m.has k))]/\Ext H H'):=iR h
theorem gE{H H1:zV}{c:Nat}(sg:Seg)(hc:c=H.size)(hH1:H1=H.push (.cells #[.int .i64 0,.int .i64 0,.int .i64 0,.int .i64 0,.int .i64 0,.int .i64 0,.int .i64 0] 96)):
  aI H1 ⟨c,0,none⟩ 0 7/\ ∀H2,H2=aO H1 ⟨c,0,none⟩ [.int .i64 sg.gen,.int .i64 sg.kind,.int .i64 sg.n,.int .i64 (sg.cards 0),.int .i64 (sg.cards 1),.int .i64 (sg.cards 2),.int .i64 (sg.cards 3)] 0->Ext H H2/\
   hat H2 ⟨c,0,none⟩=some (.int .i64 sg.gen)/\hat H2 ⟨c,1,none⟩=some (.int .i64 sg.kind)/\hat H2 ⟨c,2,none⟩=some (.int .i64 sg.n)/\aU H2 ⟨c,0,none⟩ 0 [.int .i64 sg.gen,.int .i64 sg.kind,.int .i64 sg.n,.int .i64 (sg.cards 0),.int .i64 (sg.cards 1),.int .i64 (sg.cards 2),.int .i64 (sg.cards 3)]:=by
 obtain⟨hc1,hs⟩:=boxed (vs:=[.int .i64 sg.gen,.int .i64 sg.kind,.int .i64 sg.n,.int .i64 (sg.cards 0),.int .i64 (sg.cards 1),.int .i64 (sg.cards 2),.int .i64 (sg.cards 3)]) (H1:=H1) (aL hc hH1) rfl rfl
 refine⟨hc1,λH2 hH2=>?_⟩
 obtain⟨hr,hE⟩:=hs H2 hH2
 exact⟨hE H (Ext.push' hH1) (by omega),hr.1,hr.2.1,hr.2.2.1,hr⟩
theorem qS(a b:Int):(if a<b then a else b)=min b a:=by
 by_cases h:a<b
 ·rw[if_pos h];omega
 ·rw[if_neg h];omega

set_option maxRecDepth 100000 in
theorem pb{H:zV}{b:Blk}{x:Hp}{q:TB}{t:Tr}(T:Tg H b x q t)(hcs:kw t.cards):
  cU.C (some ⟨q.t,0,none⟩) H (λ_ H'=>Tg H' b {x with sp:=x.sp.lookCards t.old t.tgt t.cards} q t/\Fr (spB b) H H'):=by
 refine HC.via λR hR=>cU.link ?_
 unfold cU.pt zY
 refine HC.mono (ir T.toTc) ?_
 rintro _ H1 ⟨rfl,rfl⟩
 refine⟨_,rfl,?_⟩
 rw[if_neg (by rw[T.on];decide)]
 obtain⟨hcl,hcm⟩:=T.tr.clen
 refine⟨_,rfl,_,_,_,by rw[addr_add_mk];exact T.tr.cAt,?_⟩
 refine⟨λi H'=>(0<=i/\i<=q.cN)/\Tg H' b {x with sp:=x.sp.lookCards t.old t.tgt (t.cards.take i.toNat)} q t/\Fr (spB b) H1 H',λi _=>(q.cN-i).toNat,⟨by omega,T,Fr.refl _ _⟩,?_⟩
 rintro i H2 ⟨hi,T2,f2⟩
 by_cases hlt:i< (q.cN:Int)
 case neg=>
  rw[if_neg hlt]
  rw[List.take_of_length_le (by omega)]at T2
  exact hR _ _ ⟨T2,f2⟩
 rw[if_pos hlt]
 have hil:i.toNat<t.cards.length:=by omega
 obtain⟨ca,hca,hrow⟩:=lY T2.tr.cards hil
 have hck:=hcs _ (List.getElem_mem hil)
 generalize hcd:t.cards[i.toNat]=cd at*
 refine⟨ca,hca,⟨hi.1,hlt⟩,cd.1,cd.2,hrow,λc3 H3 hc3 hH3=>?_⟩
 obtain⟨hcp,hs⟩:=boxed (vs:=[.int .i64 cd.1,.int .i64 cd.2]) (H1:=H3) (aL hc3 hH3) rfl rfl
 refine⟨hcp,λH4 hH4=>?_⟩
 obtain⟨hr4,hE4⟩:=hs H4 hH4
 have e24:Ext H2 H4:=hE4 H2 (Ext.push' hH3) (by omega)
 have T4:=T2.grow e24
 have c3n: ∀j,j∈b.all\/j∈q.all->j≠c3:=λj hj=>by have:=T2.lt hj;omega
 obtain⟨p1,p2,p3,p4⟩:=T4.s1
 have hS1:hat H4 ⟨c3,0,none⟩=some (.int .i64 cd.1):=hr4.1
 have hS2:hat H4 ⟨c3,1,none⟩=some (.int .i64 cd.2):=hr4.2.1
 refine⟨_,p1,_,rfl,_,p2,_,rfl,_,p3,_,rfl,_,p4,_,hS1,?_⟩
 have rest: ∀(H7:zV),Ext H4 H7->bQ.C (some ⟨q.t,0,none⟩) cd.1 (IntKind.wrap .i64 (cd.2*16)) (if(IntKind.wrap .i64 ((IntKind.wrap .i64 (cd.2+1))*16))< ((x.sp.lookCards t.old t.tgt (t.cards.take i.toNat)).mem.segOr cd.1).n then(IntKind.wrap .i64 ((IntKind.wrap .i64 (cd.2+1))*16))else((x.sp.lookCards t.old t.tgt (t.cards.take i.toNat)).mem.segOr cd.1).n) ((x.sp.lookCards t.old t.tgt (t.cards.take i.toNat)).mem.segOr cd.1).kind H7
   (λ_ H8=>((0<=IntKind.wrap .i64 (i+1)/\IntKind.wrap .i64 (i+1)<=q.cN)/\Tg H8 b {x with sp:=x.sp.lookCards t.old t.tgt (t.cards.take (IntKind.wrap .i64 (i+1)).toNat)} q t/\Fr (spB b) H1 H8)/\(q.cN-IntKind.wrap .i64 (i+1)).toNat< (q.cN-i).toNat):=by
  intro H7 e7
  have T7:=T4.grow e7
  have sgok:=lZ T4.ok.mem cd.1
  have sgn:((x.sp.lookCards t.old t.tgt (t.cards.take i.toNat)).mem.segOr cd.1).n<=64:=sgok.n.2
  rw[w64 (n:=cd.2*16) (by omega),w64 (n:=cd.2+1) (by omega),w64 (n:=(cd.2+1)*16) (by omega),w64 (n:=i+1) (by omega),qS]
  refine HC.mono (mS T7 hck.1 (by omega) (by omega)) ?_
  rintro _ H8 ⟨T8,f8⟩
  have f18:Fr (spB b) H1 H8:=f2.trans ((e24.trans e7).fr.trans f8)
  refine⟨⟨by omega,?_,f18⟩,by omega⟩
  have et:t.cards.take (i+1).toNat=t.cards.take i.toNat++[cd]:=by
   rw[show(i+1).toNat=i.toNat+1 by omega,List.take_succ_eq_append_getElem hil,hcd]
  rw[et,Sp.lookCards_snoc]
  exact T8
 constructor
 ·refine HC.mono (eO T4.hp.cd.sp.mem) ?_
  rintro _ H5 ⟨rfl,e5⟩
  refine⟨_,_,_,_,_,_,_,_,rfl,λc6 H6 hc6 hH6=>?_⟩
  obtain⟨hcp6,hs6⟩:=gE ((x.sp.lookCards t.old t.tgt (t.cards.take i.toNat)).mem.segOr cd.1) hc6 hH6
  refine⟨hcp6,λH7 hH7=>?_⟩
  obtain⟨e7,g0,g1,g2,_⟩:=hs6 H7 hH7
  have e47:=e5.trans e7
  exact⟨_,e47.hat hS1,_,by rw[addr_add_mk];exact e47.hat hS2,_,by rw[addr_add_mk];exact g2,_,by rw[addr_add_mk];exact e47.hat hS2,_,by rw[addr_add_mk];exact g1,rest H7 e47⟩
 ·intro c9 H9 hc9 hH9
  have e9:Ext H4 H9:=Ext.push' hH9
  simp only[aU,and_true,addr_add_mk,Nat.add_zero]
  refine⟨e9.hat p1,e9.hat p2,e9.hat p3,e9.hat p4,e9.hat hS1,?_⟩
  refine HC.mono (eO (T4.grow e9).hp.cd.sp.mem) ?_
  rintro _ H10 ⟨rfl,e10⟩
  obtain⟨hcA,hsA⟩:=boxed (vs:=[.int .i64 ((x.sp.lookCards t.old t.tgt (t.cards.take i.toNat)).mem.segOr cd.1).gen,.int .i64 ((x.sp.lookCards t.old t.tgt (t.cards.take i.toNat)).mem.segOr cd.1).kind,.int .i64 ((x.sp.lookCards t.old t.tgt (t.cards.take i.toNat)).mem.segOr cd.1).n,.int .i64 (((x.sp.lookCards t.old t.tgt (t.cards.take i.toNat)).mem.segOr cd.1).cards 0),.int .i64 (((x.sp.lookCards t.old t.tgt (t.cards.take i.toNat)).mem.segOr cd.1).cards 1),.int .i64 (((x.sp.lookCards t.old t.tgt (t.cards.take i.toNat)).mem.segOr cd.1).cards 2),.int .i64 (((x.sp.lookCards t.old t.tgt (t.cards.take i.toNat)).mem.segOr cd.1).cards 3)]) (H1:=H10) (e10.get (aL hc9 hH9)) rfl rfl
  refine⟨_,_,_,_,_,_,_,_,rfl,hcA,λH11 hH11=>?_⟩
  obtain⟨hr11,hE11⟩:=hsA H11 hH11
  have e11:Ext H4 H11:=hE11 H4 (e9.trans e10) (by omega)
  exact⟨_,e11.hat hS1,_,e11.hat hS2,_,hr11.2.2.1,_,e11.hat hS2,_,hr11.2.1,rest H11 e11⟩

def seenAt(ks:List (Int×Value))(k:Int):Int:=match mget ks k with | some (.int .i64 n)=>n | _=>0
def fE(ks:List (Int×Value)):Prop:= ∀k v,mget ks k=some v-> ∃n:Int,v=.int .i64 n/\0<=n/\n<=64
theorem iu{ks:List (Int×Value)}(h:fE ks)(k:Int):(mget ks k).getD (.int .i64 0)=.int .i64 (seenAt ks k)/\0<=seenAt ks k/\seenAt ks k<=64:=by
 unfold seenAt
 cases hm:mget ks k with
 | none=>exact⟨rfl,by decide,by decide⟩
 | some v=>
  obtain⟨n,rfl,h1,h2⟩:=h k v hm
  exact⟨rfl,h1,h2⟩
theorem i0(ks:List (Int×Value))(k a:Int)(v:Value):mget (mput ks k v) a=if a=k then some v else mget ks a:=by
 induction ks with
 | nil=>
  simp only[mput,mget,List.find?_cons]
  by_cases h:a=k
  ·simp[h]
  ·simp[h]
 | cons p ks ih=>
  simp only[mput]
  by_cases h:k=p.1
  ·rw[if_pos h]
   simp only[mget,List.find?_cons]
   by_cases ha:a=k
   ·simp[ha]
   ·simp[ha,<-h]
  ·rw[if_neg h]
   simp only[mget,List.find?_cons]at ih⊢
   by_cases ha:a=p.1
   ·subst ha
    have: ¬p.1=k:=λe=>h e.symm
    simp[this]
   ·simp only[ha,decide_false,Bool.false_eq_true]
    exact ih
theorem jU(ks:List (Int×Value))(k a n:Int):seenAt (mput ks k (.int .i64 n)) a=if a=k then n else seenAt ks a:=by
 unfold seenAt
 rw[i0]
 by_cases h:a=k
 ·rw[if_pos h,if_pos h]
 ·rw[if_neg h,if_neg h]
theorem fE.put{ks:List (Int×Value)}(h:fE ks){k n:Int}(hn:0<=n/\n<=64):fE (mput ks k (.int .i64 n)):=by
 intro a v hv
 rw[i0]at hv
 by_cases ha:a=k
 ·rw[if_pos ha]at hv;cases hv;exact⟨n,rfl,hn⟩
 ·rw[if_neg ha]at hv;exact h a v hv
def mu(ks:List (Int×Value)):Nat:=((List.range 1024).map λk:Nat=>(64-seenAt ks k).toNat).sum
theorem sum_lt: ∀(l:List Nat) (f g:Nat->Nat) (k:Nat),k∈l->(∀i∈l,f i<=g i)->f k<g k->(l.map f).sum< (l.map g).sum
 | [],_,_,_,h,_,_=>by cases h
 | a::l,f,g,k,h,hle,hlt=>by
  simp only[List.map_cons,List.sum_cons]
  have ha:=hle a (by simp)
  have hs: ∀l':List Nat,(∀i∈l',f i<=g i)->(l'.map f).sum<=(l'.map g).sum:=by
   intro l' h'
   induction l' with
   | nil=>simp
   | cons b l' ih=>
    simp only[List.map_cons,List.sum_cons]
    have:=h' b (by simp)
    have:=ih (λi hi=>h' i (by simp[hi]))
    omega
  rcases List.mem_cons.1 h with rfl | h
  ·have:=hs l (λi hi=>hle i (by simp[hi]));omega
  ·have:=sum_lt l f g k h (λi hi=>hle i (by simp[hi])) hlt;omega
theorem sF{ks:List (Int×Value)}{k n:Int}(hk:0<=k/\k<1024)(h:seenAt ks k<n)(hn:n<=64):mu (mput ks k (.int .i64 n))<mu ks:=by
 unfold mu
 refine sum_lt _ _ _ k.toNat (by rw[List.mem_range];omega) (λi _=>?_) ?_
 ·rw[jU]
  by_cases e:(i:Int)=k
  ·rw[if_pos e,e];omega
  ·rw[if_neg e];exact Nat.le_refl _
 ·rw[jU,if_pos (by omega),show((k.toNat:Nat):Int)=k by omega];omega

inductive fx (old:Nat->Bool) (T:Int) (s0:Sp) (k0:List (Int×Value)):Sp->List (Int×Value)->Prop
 | refl:fx old T s0 k0 s0 k0
 | step {s:Sp} {ks:List (Int×Value)} (k:Int) (h:fx old T s0 k0 s ks) (hk:s.mem.has k) (hg:(s.mem.seg k.toNat).gen=T) (ho:old k.toNat=false) (hn:seenAt ks k< (s.mem.seg k.toNat).n):
   fx old T s0 k0 (s.look old T k (s.mem.seg k.toNat).kind (seenAt ks k) ((s.mem.seg k.toNat).n-seenAt ks k).toNat) (mput ks k (.int .i64 (s.mem.seg k.toNat).n))
def lq(old:Nat->Bool)(T:Int)(s:Sp)(ks:List (Int×Value)):Prop:= ∀k:Nat,s.mem.has k->(s.mem.seg k).gen=T->old k=false->(s.mem.seg k).n<=seenAt ks k
theorem fx.trans{old:Nat->Bool}{T:Int}{a b c:Sp}{ka kb kc:List (Int×Value)}(h:fx old T a ka b kb)(k:fx old T b kb c kc):fx old T a ka c kc:=by
 induction k with
 | refl=>exact h
 | step k _ hk hg ho hn ih=>exact .step k ih hk hg ho hn
structure dO (m m':Mem):Prop where
 limit:m'.limit=m.limit
 seg: ∀k,(m.seg k).taken≠0->(m'.seg k).gen=(m.seg k).gen/\(m'.seg k).kind=(m.seg k).kind/\(m'.seg k).taken=(m.seg k).taken/\(m.seg k).n<=(m'.seg k).n
 cards: ∀k,(m.seg k).taken≠0->(m'.seg k).cards=(m.seg k).cards
theorem dO.refl(m:Mem):dO m m:=⟨rfl,λ_ _=>⟨rfl,rfl,rfl,Int.le_refl _⟩,λ_ _=>rfl⟩
theorem dO.trans{a b c:Mem}(h:dO a b)(k:dO b c):dO a c:=⟨k.limit.trans h.limit,λi hi=>by
 obtain⟨h1,h2,h3,h4⟩:=h.seg i hi
 obtain⟨k1,k2,k3,k4⟩:=k.seg i (by rw[h3];exact hi)
 exact⟨k1.trans h1,k2.trans h2,k3.trans h3,Int.le_trans h4 k4⟩,λi hi=>(k.cards i (by rw[(h.seg i hi).2.2.1];exact hi)).trans (h.cards i hi)⟩
theorem bD.heads{m m':Mem}(h:bD m m'):dO m m':=⟨h.limit,λk _=>⟨(h.seg k).1,(h.seg k).2.1,(h.seg k).2.2.2.1,by rw[(h.seg k).2.2.1];exact Int.le_refl _⟩,λk _=>(h.seg k).2.2.2.2⟩
theorem Grown.heads{m m':Mem}{a g k n:Int}(gr:Grown m m' a n g k)(hn:0<=n):dO m m':=⟨gr.limit,λi hi=>by
 by_cases hj:i=(a / 64).toNat
 ·subst hj
  obtain⟨o1,o2,o3,o4,o5,o6⟩:=gr.old hi
  obtain⟨n1,n2,n3,n4⟩:=gr.new
  exact⟨n2.trans o1.symm,n3.trans o2.symm,o6,by rw[n4,o3];omega⟩
 ·rw[gr.others i hj];exact⟨rfl,rfl,rfl,Int.le_refl _⟩,λi hi=>by
 by_cases hj:i=(a / 64).toNat
 ·subst hj;exact(gr.old hi).2.2.2.2.1
 ·rw[gr.others i hj]⟩
theorem dO.has{m m':Mem}(h:dO m m'){k:Int}(hk:m.has k):m'.has k:=⟨hk.1,by rw[h.limit];exact hk.2.1,by rw[(h.seg _ hk.2.2).2.2.1];exact hk.2.2⟩
theorem Sp.visit_heads{s:Sp}(ok:SpOK s)(he:s.mem.Even){old:Nat->Bool}{T w:Int}(hw:aJ w):dO s.mem (s.visit old T w).1.mem:=by
 unfold Sp.visit
 split
 ·exact dO.refl _
 split
 ·exact dO.refl _
 split
 ·exact dO.refl _
 rename_i h0
 split
 ·rename_i ha
  obtain⟨_,gr⟩:=Sp.alloc_ok ok ha
  have hs:=Mem.size_used ok.mem he hw h0
  exact((gr.heads (by omega)).trans (bD.sets _ _ _).heads).trans (bD.set _ _ _).heads
 ·exact dO.refl _
theorem Sp.lookAt_heads{s:Sp}(ok:SpOK s)(he:s.mem.Even){old:Nat->Bool}{T a:Int}:dO s.mem (s.lookAt old T a).mem:=
 (Sp.visit_heads ok he (Mem.read_word ok.mem a)).trans (bD.wr _ _ _).heads
theorem Sp.visit_ok{s:Sp}(ok:SpOK s){old:Nat->Bool}{T w:Int}(hw:aJ w)(ht:aM old w->True):SpOK (s.visit old T w).1:=by
 unfold Sp.visit
 split
 ·exact ok
 split
 ·exact ok
 split
 ·exact ok
 split
 ·rename_i ha
  obtain⟨ok2,gr⟩:=Sp.alloc_ok ok ha
  have hlim:=ok.mem.lim
  obtain⟨a0,a1,a2⟩:=gr.addr
  have ok3:=ok2.sets (s.alloc T (s.mem.kindOf w) (s.mem.sizeOf w)).2.1 (ws:=s.mem.row (w / 8) (s.mem.sizeOf w).toNat) (λv hv=>by
   unfold Mem.row at hv
   obtain⟨i,_,rfl⟩:=List.mem_map.1 hv
   exact(ok.mem.seg _).words _)
  exact ok3.withMem (ok3.mem.set (w / 8) ⟨by omega,by omega⟩) (λk h=>Mem.set_has.2 h) (λk=>⟨((bD.set _ _ _).seg k).1,((bD.set _ _ _).seg k).2.1⟩)
 ·exact ok
theorem Sp.lookAt_ok{s:Sp}(ok:SpOK s){old:Nat->Bool}{T a:Int}:SpOK (s.lookAt old T a):=
 SpOK.wr (Sp.visit_ok ok (Mem.read_word ok.mem a) (λ_=>trivial)) a (Sp.visit_word ok (Mem.read_word ok.mem a))
theorem Sp.look_ok{s:Sp}(ok:SpOK s)(he:s.mem.Even){old:Nat->Bool}{T seg kind lo:Int}: ∀n,SpOK (s.look old T seg kind lo n)/\(s.look old T seg kind lo n).mem.Even/\dO s.mem (s.look old T seg kind lo n).mem
 | 0=>⟨ok,he,dO.refl _⟩
 | n+1=>by
  obtain⟨h1,h2,h3⟩:=Sp.look_ok ok he (old:=old) (T:=T) (seg:=seg) (kind:=kind) (lo:=lo) n
  unfold Sp.look
  split
  ·exact⟨Sp.lookAt_ok h1,Sp.lookAt_even h1 h2 _ _ _,h3.trans (Sp.lookAt_heads h1 h2)⟩
  ·exact⟨h1,h2,h3⟩
theorem fx.heads{old:Nat->Bool}{T:Int}{a b:Sp}{ka kb:List (Int×Value)}(h:fx old T a ka b kb)(ok:SpOK a)(he:a.mem.Even):SpOK b/\b.mem.Even/\dO a.mem b.mem:=by
 induction h with
 | refl=>exact⟨ok,he,dO.refl _⟩
 | step k _ _ _ _ _ ih=>
  obtain⟨h1,h2,h3⟩:=ih
  obtain⟨k1,k2,k3⟩:=Sp.look_ok h1 h2 (old:=old) (T:=T) (seg:=k) (kind:=(_:Int)) (lo:=_) _
  exact⟨k1,k2,h3.trans k3⟩

theorem row1{H:zV}{c o:Nat}{v:Value}(h:hat H ⟨c,o,none⟩=some v):aU H ⟨c,o,none⟩ 0 [v]:=⟨by rw[addr_add_mk];exact h,trivial⟩
theorem TrAt.putSeen{H:zV}{b:Blk}{q:TB}{t:Tr}{es:Array MapEntry}{cl:Nat}{ks:List (Int×Value)}(h:TrAt H b q t)(he:Ents (dg .i64) es.toList ks):TrAt (bC H q.s (.map es cl)) b q {t with seen:=ks}:=by
 have f:Fr [q.s] H (bC H q.s (.map es cl)):=Fr.set
 have l1:=h.lt q.s (by simp[TB.all])
 obtain⟨cs,h1,hr⟩:=h.tr
 obtain⟨es1,cl1,h2,hr2⟩:=h.frm
 have ne:=h.ne
 refine⟨⟨cs,f.get (by simp;omega) h1,hr⟩,⟨es1,cl1,f.get (by simp;omega) h2,hr2⟩,⟨es,cl,bA l1,he⟩,?_,λa ha=>Nat.lt_of_lt_of_le (h.cB a ha) f.size,h.clen,h.ne⟩
 have hc:=h.cards
 cases hb:q.cB with
 | none=>rw[hb]at hc;exact hc
 | some a=>
  rw[hb]at hc
  refine f.rowAt ?_ hc
  have:=ne.2.2.2 a.block (by rw[hb];simp)
  simp;omega
theorem Tg.putSeen{H H':zV}{b:Blk}{x:Hp}{q:TB}{t:Tr}{es:Array MapEntry}{cl:Nat}{ks:List (Int×Value)}(h:Tg H b x q t)(he:Ents (dg .i64) es.toList ks)(hH:H'=bC H q.s (.map es cl)):Tg H' b x q {t with seen:=ks}:=by
 subst hH
 have f:Fr [q.s] H (bC H q.s (.map es cl)):=Fr.set
 have hn:q.s ∉ b.all:=h.apart q.s (by simp[TB.all])
 exact⟨⟨h.hp.keep f (λi hi=>by simp at hi;rw[hi];exact hn),h.ok,h.tr.putSeen he,h.apart⟩,h.even,h.cf,h.on⟩

structure RdT (H A:zV) (b:Blk) (x:Hp) (q:TB) (t:Tr) (B:zW) (c:Nat) (l:List Nat) (i:Nat) (sm:Bool) (s:Sp) (ks:List (Int×Value)):Prop where
 dr:fx t.old t.tgt x.sp t.seen s ks
 tg:Tg A b {x with sp:=s} q {t with seen:=ks}
 ok:fE ks
 fr:Fr (q.s::spB b) H A
 own:Own A 3 1 B l.length c (ivs (l.map λi:Nat=>(i:Int)))
 no:sm=false->s=x.sp/\ks=t.seen/\ ∀j,j<i-> ∀h:j<l.length,t.old l[j]=true\/(x.sp.mem.seg l[j]).n<=seenAt t.seen l[j]
 yes:sm=true->mu ks<mu t.seen

set_option maxRecDepth 100000 in
theorem pd{H:zV}{b:Blk}{x:Hp}{q:TB}{t:Tr}(T:Tg H b x q t)(hso:fE t.seen)(htg:0<=t.tgt):
  cW.C (some ⟨q.t,0,none⟩) H (λv H'=> ∃(sm:Bool) (s:Sp) (ks:List (Int×Value)),v=.bool sm/\fx t.old t.tgt x.sp t.seen s ks/\Tg H' b {x with sp:=s} q {t with seen:=ks}/\fE ks/\Fr (q.s::spB b) H H'/\(sm=false->lq t.old t.tgt s ks)/\(sm=true->mu ks<mu t.seen)):=by
 refine HC.via λR hR=>cW.link ?_
 unfold cW.pt zY
 obtain⟨p1,p2,p3,p4⟩:=T.s1
 refine⟨_,rfl,_,p1,_,rfl,_,p2,_,rfl,_,p3,_,rfl,_,p4,_,by rw[addr_add_mk];exact T.tr.tgtAt,?_⟩
 intro c1 H1 hc1 hH1
 have e1:Ext H H1:=Ext.push' hH1
 have g1:=aL hc1 hH1
 have s1:H1.size=H.size+1:=by rw[hH1];simp
 have T1:=T.grow e1
 refine⟨row1 (e1.hat p1),row1 (e1.hat p2),row1 (e1.hat p3),row1 (e1.hat p4),?_⟩
 refine HC.mono (ib (gs:=[t.tgt]) T1.hp.cd.sp.mem T1.ok.mem (show db H1 (some ⟨c1,0,none⟩) (ivs [t.tgt])from row1 (by rw[aT g1];rfl)) rfl (by decide)) ?_
 rintro _ H2 ⟨B,c,l,rfl,hl,how,hfr,e2⟩
 refine⟨_,_,_,rfl,?_⟩
 have e12:=e1.trans e2
 have T2:=T.grow e12
 have hlen:=hl.len
 have hlim:=T.ok.mem.lim
 have hBn: ∀j∈blks B,j ∉ q.s::spB b:=λj hj h=>by
  have h1:=hfr j hj
  rcases List.mem_cons.1 h with rfl | h
  ·have:=T.lt (.inr (show q.s∈q.all by simp[TB.all]));omega
  ·have:=T.lt (.inl (hX h));omega
 refine⟨λsm i A=>(0<=i/\i<=l.length)/\ ∃s ks,RdT H A b x q t B c l i.toNat sm s ks,λ_ i _=>(l.length-i).toNat,
  ⟨⟨by omega,by omega⟩,x.sp,t.seen,⟨.refl,T2,hso,e12.fr,how,λ_=>⟨rfl,rfl,λj hj=>by simp at hj⟩,λh=>by cases h⟩⟩,?_⟩
 rintro sm i H3 ⟨hi,s,ks,rd⟩
 by_cases hlt:i< (l.length:Int)
 case neg=>
  rw[if_neg hlt]
  refine hR _ _ ⟨sm,s,ks,rfl,rd.dr,rd.tg,rd.ok,rd.fr,λhsm=>?_,rd.yes⟩
  obtain⟨rfl,rfl,hall⟩:=rd.no hsm
  intro k hk hg ho
  have hm:k∈l:=by
   refine hl.perm.mem_iff.2 ?_
   unfold Mem.takenTo
   rw[List.mem_filter,List.mem_range]
   have hpos:0< (x.sp.mem.seg k).taken:=by
    have h1:=(T.ok.mem.seg k).taken
    have h2:=hk.2.2
    rw[show((k:Nat):Int).toNat=k by omega]at h2
    omega
   refine⟨by have:=hk.2.1;omega,?_⟩
   have h2:(x.sp.mem.seg k).gen∈[t.tgt]:=by rw[hg];simp
   rw[zX hpos,zX h2];simp
  obtain⟨j,hj,rfl⟩:=List.getElem_of_mem hm
  rcases hall j (by omega) hj with h | h
  ·rw[h]at ho;cases ho
  ·exact h
 rw[if_pos hlt]
 have hil:i.toNat<l.length:=by omega
 obtain⟨a,ha,hat3⟩:=lX rd.own hil
 obtain⟨khas,klim,kpos,kgen⟩:=hl.has (List.getElem_mem hil)
 generalize hkk:l[i.toNat]=k at*
 have kgen':(x.sp.mem.seg k).gen=t.tgt:=by
  rcases kgen with h | h
  ·cases h
  ·simpa using h
 refine⟨a,ha,⟨hi.1,hlt⟩,(k:Int),hat3,⟨by omega,by omega⟩,(if t.old k then 1 else 0),?_,?_⟩
 ·rw[show((k:Nat):Int).toNat=k by omega];rw[Nat.mul_one,addr_add_mk,addr_add_mk,Nat.zero_add];exact rd.tg.tr.oldAt (k:=k) (by omega)
 have hw1:IntKind.wrap .i64 (i+1)=i+1:=w64 (by omega)
 have hs1:(i+1).toNat=i.toNat+1:=by omega
 have hdec:((l.length:Int)-(i+1)).toNat< ((l.length:Int)-i).toNat:=by omega
 by_cases ho:t.old k=true
 ·rw[if_pos (by rw[if_pos ho])]
  rw[hw1]
  refine⟨⟨⟨by omega,by omega⟩,s,ks,rd.dr,rd.tg,rd.ok,rd.fr,rd.own,λhsm=>?_,rd.yes⟩,hdec⟩
  obtain⟨h1,h2,h3⟩:=rd.no hsm
  refine⟨h1,h2,λj hj h=>?_⟩
  by_cases hji:j=i.toNat
  ·subst hji;left;rw[hkk];exact ho
  ·exact h3 j (by omega) h
 rw[if_neg (by rw[if_neg ho];decide)]
 have ho':t.old k=false:=by simpa using ho
 obtain⟨p1,p2,p3,p4⟩:=rd.tg.s1
 refine⟨_,p1,_,rfl,_,p2,_,rfl,_,p3,_,rfl,_,p4,?_⟩
 refine HC.mono (eO rd.tg.hp.cd.sp.mem) ?_
 rintro _ H4 ⟨rfl,e4⟩
 refine⟨_,_,_,_,_,_,_,_,rfl,λc5 H5 hc5 hH5=>?_⟩
 obtain⟨hcp,hs⟩:=gE (s.mem.segOr k) hc5 hH5
 refine⟨hcp,λH6 hH6=>?_⟩
 obtain⟨e6,_,_,_,hr6⟩:=hs H6 hH6
 have e36:=e4.trans e6
 have c5n:H3.size<=c5:=by have:=e4.size;omega
 have hB3: ∀j∈blks B,j<H3.size:=rd.own.lt
 have hbq: ∀j,j∈b.all\/j∈q.all->j<H.size:=λj hj=>T.lt hj
 have hH3:H.size<=H3.size:=rd.fr.size
 refine⟨λsm' o A=> ∃(c':Nat) (s':Sp) (ks':List (Int×Value)),o=some ⟨c',0,none⟩/\H3.size<=c'/\aU A ⟨c',0,none⟩ 0 [.int .i64 (s'.mem.segOr k).gen,.int .i64 (s'.mem.segOr k).kind,.int .i64 (s'.mem.segOr k).n,.int .i64 ((s'.mem.segOr k).cards 0),.int .i64 ((s'.mem.segOr k).cards 1),.int .i64 ((s'.mem.segOr k).cards 2),.int .i64 ((s'.mem.segOr k).cards 3)]/\RdT H A b x q t B c l i.toNat sm' s' ks'/\H3.size<=A.size,
  λ_ _ A=>mu (match A[q.s]? with | some (.map es _)=>es.toList.map (λe=>((match e.key with | .int _ n=>n | _=>0),e.val)) | _=> []),?_,?_⟩
 ·exact⟨c5,s,ks,rfl,c5n,hr6,⟨rd.dr,rd.tg.grow e36,rd.ok,rd.fr.trans e36.fr,rd.own.ext e36,rd.no,rd.yes⟩,e36.size⟩
 rintro sm2 o H7 ⟨c',s',ks',rfl,hc',hr7,rd7,hsz⟩
 have hmap: ∀{A:zV} {s'':Sp} {ks'':List (Int×Value)},Tg A b {x with sp:=s''} q {t with seen:=ks''}->(match A[q.s]? with | some (.map es _)=>es.toList.map (λe=>((match e.key with | .int _ n=>n | _=>0),e.val)) | _=> [])=ks'':=by
  intro A s'' ks'' tg
  obtain⟨es,cl,h1,h2⟩:=tg.tr.seen
  rw[h1]
  show es.toList.map _=ks''
  have h3:=congrArg (List.map (λp:Value×Value=>((match p.1 with | .int _ n=>n | _=>0),p.2))) h2
  simp only[List.map_map]at h3
  refine Eq.trans ?_ (h3.trans ?_)
  ·rfl
  ·show List.map _ ks''=ks''
   conv=>rhs;rw[<-List.map_id ks'']
   rfl
 obtain⟨es,cl,hes,hen⟩:=rd7.tg.tr.seen
 obtain⟨hget,hs0,hs64⟩:=iu rd7.ok (k:Int)
 obtain⟨ok7,ev7,hd7⟩:=rd7.dr.heads T.ok T.even
 have hhas7:s'.mem.has (k:Int):=hd7.has khas
 have hsg7:s'.mem.segOr k=s'.mem.seg k:=by unfold Mem.segOr;rw[if_pos hhas7,show((k:Nat):Int).toNat=k by omega]
 have hne0:(x.sp.mem.seg k).taken≠0:=by omega
 have hgen7:(s'.mem.seg k).gen=t.tgt:=((hd7.seg k hne0).1).trans kgen'
 have hn7:=(ok7.mem.seg k).n
 have hN:hat H7 ⟨c',2,none⟩=some (.int .i64 (s'.mem.seg k).n):=by rw[<-hsg7];exact hr7.2.2.1
 refine⟨_,rd7.tg.tr.sAt,_,rfl,es,cl,_,hes,hen,_,hget,_,rfl,_,hN,?_⟩
 by_cases hgo:seenAt ks' k< (s'.mem.seg k).n
 case neg=>
  rw[if_neg hgo,hw1]
  refine⟨⟨⟨by omega,by omega⟩,s',ks',rd7.dr,rd7.tg,rd7.ok,rd7.fr,rd7.own,λhsm=>?_,rd7.yes⟩,hdec⟩
  obtain⟨rfl,rfl,h3⟩:=rd7.no hsm
  refine⟨rfl,rfl,λj hj h=>?_⟩
  by_cases hji:j=i.toNat
  ·subst hji;right;rw[hkk];omega
  ·exact h3 j (by omega) h
 rw[if_pos hgo]
 refine⟨_,rd7.tg.tr.sAt,_,rfl,es,cl,_,hes,hen,_,hget,_,rd7.tg.tr.sAt,_,hN,_,rfl,es,cl,_,hes,hen,?_⟩
 intro es4 cl4 H8 hH8 hen8
 have T8:=rd7.tg.putSeen hen8 hH8
 have f8:Fr [q.s] H7 H8:=by rw[hH8];exact Fr.set
 have c'q:c' ∉ q.s::spB b:=λh=>by
  rcases List.mem_cons.1 h with h | h
  ·have:=hbq q.s (.inr (by simp[TB.all]));omega
  ·have:=hbq c' (.inl (hX h));omega
 have c'q1:c' ∉ [q.s]:=λh=>c'q (by simp at h;simp[h])
 have c'q2:c' ∉ spB b:=λh=>c'q (List.mem_cons_of_mem _ h)
 have hr8:=f8.rowAt (a:=⟨c',0,none⟩) c'q1 hr7
 have hr8b:=hr8
 simp only[aU,and_true,addr_add_mk,Nat.zero_add]at hr8b
 refine⟨_,hr8b.2.2.1,_,hr8b.2.1,?_⟩
 rw[hsg7]
 refine HC.mono (mS T8 ⟨by omega,by omega⟩ ⟨hs0,hs64⟩ hn7.2) ?_
 rintro _ H9 ⟨T9,f9⟩
 have hr9:=f9.rowAt (a:=⟨c',0,none⟩) c'q2 hr8
 refine⟨_,_,_,_,_,_,_,hr9,?_⟩
 intro c10 H10 hc10 hH10
 obtain⟨hcpA,hsA⟩:=boxed (vs:=[.int .i64 (s'.mem.segOr k).gen,.int .i64 (s'.mem.segOr k).kind,.int .i64 (s'.mem.segOr k).n,.int .i64 ((s'.mem.segOr k).cards 0),.int .i64 ((s'.mem.segOr k).cards 1),.int .i64 ((s'.mem.segOr k).cards 2),.int .i64 ((s'.mem.segOr k).cards 3)]) (H1:=H10) (aL hc10 hH10) rfl rfl
 refine⟨hcpA,λH11 hH11=>?_⟩
 have h10get:=aL hc10 hH10
 obtain⟨hr11,hEA⟩:=hsA H11 hH11
 have e11:Ext H9 H11:=hEA H9 (Ext.push' hH10) (by omega)
 have T11:=T9.grow e11
 obtain⟨p1,p2,p3,p4⟩:=T11.s1
 refine⟨_,p1,_,rfl,_,p2,_,rfl,_,p3,_,rfl,_,p4,?_⟩
 refine HC.mono (eO T11.hp.cd.sp.mem) ?_
 rintro _ H12 ⟨rfl,e12'⟩
 have hb11: ∃cs:Array Value,H11[c10]?=some (.cells cs 96 (0,0))/\cs.size=7:=by
  rw[cR _ H10 _ 0 0 h10get]at hH11
  rw[hH11]
  exact⟨_,bA (bB h10get),by rw[splice_size];rfl⟩
 obtain⟨cs,hcs,hcsn⟩:=hb11
 generalize hs2:s'.look t.old t.tgt k (s'.mem.seg k).kind (seenAt ks' k) ((s'.mem.seg k).n-seenAt ks' k).toNat=s2 at*
 obtain⟨hcpB,hsB⟩:=boxed (vs:=[.int .i64 (s2.mem.segOr k).gen,.int .i64 (s2.mem.segOr k).kind,.int .i64 (s2.mem.segOr k).n,.int .i64 ((s2.mem.segOr k).cards 0),.int .i64 ((s2.mem.segOr k).cards 1),.int .i64 ((s2.mem.segOr k).cards 2),.int .i64 ((s2.mem.segOr k).cards 3)]) (H1:=H12) (e12'.get hcs) hcsn rfl
 refine⟨_,_,_,_,_,_,_,_,rfl,hcpB,λH13 hH13=>?_⟩
 obtain⟨hr13,hEB⟩:=hsB H13 hH13
 have e13:Ext H9 H13:=hEB H9 (e11.trans e12') (by omega)
 have T13:=T9.grow e13
 have hmu:=sF (ks:=ks') (k:=k) ⟨by omega,by omega⟩ hgo hn7.2
 have f78:Fr (q.s::spB b) H7 H9:=(f8.mono (λj hj _=>by simp at hj;simp[hj])).trans (f9.mono (λj hj _=>List.mem_cons_of_mem _ hj))
 have dr:=fx.step (k:Int) rd7.dr hhas7 (by rw[show((k:Nat):Int).toNat=k by omega];exact hgen7) (by rw[show((k:Nat):Int).toNat=k by omega];exact ho') (by rw[show((k:Nat):Int).toNat=k by omega];exact hgo)
 rw[show((k:Nat):Int).toNat=k by omega,hs2]at dr
 refine⟨⟨c10,s2,_,rfl,?_,hr13,⟨dr,T13,rd7.ok.put hn7,rd7.fr.trans (f78.trans e13.fr),?_,(λh=>by cases h),λ_=>?_⟩,?_⟩,?_⟩
 ·have:=f78.size;omega
 ·exact(rd7.own.keep f78 hBn).ext e13
 ·by_cases hsm:sm2=true
  ·exact Nat.lt_trans hmu (rd7.yes hsm)
  ·have:=(rd7.no (by simpa using hsm)).2.1
   rw[<-this];exact hmu
 ·have:=f78.size;have:=e13.size;omega
 ·show mu _<mu _
  rw[hmap T13,hmap rd7.tg];exact hmu

set_option maxRecDepth 100000 in
theorem pf{H:zV}{b:Blk}{x:Hp}{q:TB}{t:Tr}(T:Tg H b x q t)(hso:fE t.seen)(htg:0<=t.tgt):
  bZ.C (some ⟨q.t,0,none⟩) H (λ_ H'=> ∃(s:Sp) (ks:List (Int×Value)),fx t.old t.tgt x.sp t.seen s ks/\lq t.old t.tgt s ks/\Tg H' b {x with sp:=s} q {t with seen:=ks}/\fE ks/\Fr (q.s::spB b) H H'):=by
 refine HC.via λR hR=>bZ.link ?_
 unfold bZ.pt
 have hmap: ∀{A:zV} {s'':Sp} {ks'':List (Int×Value)},Tg A b {x with sp:=s''} q {t with seen:=ks''}->(match A[q.s]? with | some (.map es _)=>es.toList.map (λe=>((match e.key with | .int _ n=>n | _=>0),e.val)) | _=> [])=ks'':=by
  intro A s'' ks'' tg
  obtain⟨es,cl,h1,h2⟩:=tg.tr.seen
  rw[h1]
  show es.toList.map _=ks''
  have h3:=congrArg (List.map (λp:Value×Value=>((match p.1 with | .int _ n=>n | _=>0),p.2))) h2
  simp only[List.map_map]at h3
  refine Eq.trans ?_ (h3.trans ?_)
  ·rfl
  ·show List.map _ ks''=ks''
   conv=>rhs;rw[<-List.map_id ks'']
   rfl
 refine⟨λA=> ∃s ks,fx t.old t.tgt x.sp t.seen s ks/\Tg A b {x with sp:=s} q {t with seen:=ks}/\fE ks/\Fr (q.s::spB b) H A,
  λA=>mu (match A[q.s]? with | some (.map es _)=>es.toList.map (λe=>((match e.key with | .int _ n=>n | _=>0),e.val)) | _=> []),⟨_,_,.refl,T,hso,Fr.refl _ _⟩,?_⟩
 rintro H1 ⟨s,ks,dr,T1,so1,f1⟩
 refine HC.mono (ir T1.toTc) ?_
 rintro _ H2 ⟨rfl,rfl⟩
 refine⟨_,rfl,?_⟩
 rw[if_neg (show ¬t.over=true by rw[T.on];decide)]
 refine HC.mono (pd T1 so1 htg) ?_
 rintro _ H3 ⟨sm,s3,ks3,rfl,dr3,T3,so3,f3,hno,hyes⟩
 refine⟨_,rfl,?_⟩
 by_cases hsm:sm=true
 ·rw[if_pos hsm]
  refine⟨⟨s3,ks3,dr.trans dr3,T3,so3,f1.trans f3⟩,?_⟩
  show mu _<mu _
  rw[hmap T3,hmap T1];exact hyes hsm
 ·rw[if_neg hsm]
  exact hR _ _ ⟨s3,ks3,dr.trans dr3,hno (by simpa using hsm),T3,so3,f1.trans f3⟩

theorem pg{H:zV}{bm bs:Nat}{m:Mem}(h:cK H bm bs m):eE.C (some ⟨bm,0,none⟩) H (λv H'=>v=.int .i64 m.free/\H'=H):=by
 refine HC.via λR hR=>eE.link ?_
 unfold eE.pt
 rw[onPtr_some]
 exact⟨_,by rw[addr_add_mk];exact h.freeAt,hR _ _ ⟨rfl,rfl⟩⟩
def Sp.zap(s:Sp)(P:Nat->Prop) [DecidablePred P]:Sp:={s with cur:=λi j=>if P i then 0 else s.cur i j}
theorem SpAt.alike{H:zV}{b:Blk}{s s':Sp}(h:SpAt H b s)(hm:s'.mem=s.mem)(hc: ∀g k,g<5->k<4->s'.cur g k=s.cur g k):SpAt H b s':=by
 obtain⟨cs,h1,h2,h3,h4⟩:=h.sp
 exact⟨by rw[hm];exact h.mem,h.ne,cs,h1,h2,h3,λg k hg hk=>by rw[hc g k hg hk];exact h4 g k hg hk⟩
theorem SpAt.put4{H:zV}{b:Blk}{s:Sp}(h:SpAt H b s){g:Nat}(hg:g<5):
  aI H ⟨b.sp,1+g*4,none⟩ 0 4/\SpAt (aO H ⟨b.sp,1+g*4,none⟩ [.int .i64 0,.int .i64 0,.int .i64 0,.int .i64 0] 0) b (s.zap (· =g))/\Fr [b.sp] H (aO H ⟨b.sp,1+g*4,none⟩ [.int .i64 0,.int .i64 0,.int .i64 0,.int .i64 0] 0):=by
 obtain⟨cs,hb,hs,h0,hc⟩:=h.sp
 refine⟨bS hb _ _ _ (by omega),?_⟩
 rw[cR _ H cs _ 0 hb]
 refine⟨⟨h.mem.keep (S:=[b.sp]) Fr.set (by have:=h.ne;simp;omega) (by have:=h.ne;simp;omega),h.ne,_,bA (bB hb),by rw[splice_size];exact hs,?_,λi j hi hj=>?_⟩,Fr.set⟩
 ·rw[cQ _ _ _ _ (by omega)];exact h0
 ·simp only[Sp.zap]
  by_cases e:i=g
  ·rw[if_pos e,e]
   have:=dm cs [.int .i64 0,.int .i64 0,.int .i64 0,.int .i64 0] (1+g*4+0) j (by simp;omega) (by simp;omega)
   rw[show 1+g*4+j=1+g*4+0+j by omega,this]
   rcases(show j=0\/j=1\/j=2\/j=3 by omega)with rfl | rfl | rfl | rfl<;>rfl
  ·rw[if_neg e,<-hc i j hi hj]
   rcases Nat.lt_or_ge i g with hl | hl
   ·exact cQ _ _ _ _ (by omega)
   ·exact dP _ _ _ _ (by simp;omega)
def Sp.fresh(s:Sp)(gs:List Int):Sp:=s.zap (λi=>gs=[]\/(i:Int)∈gs)
theorem Sp.zap_ok{s:Sp}(ok:SpOK s)(P:Nat->Prop) [DecidablePred P]:SpOK (s.zap P):=⟨ok.mem,λg k=>by
 simp only[Sp.zap]
 split
 ·exact .inl rfl
 ·exact ok.cur g k⟩
theorem gP{α:Type}{p q:Prop} [Decidable p] [Decidable q] (h:p ↔ q)(x y:α):(if p then x else y)=if q then x else y:=by
 by_cases hp:p
 ·rw[if_pos hp,if_pos (h.1 hp)]
 ·rw[if_neg hp,if_neg (λhq=>hp (h.2 hq))]
theorem SpAt.zapTo{H:zV}{b:Blk}{s:Sp}{P Q:Nat->Prop} [DecidablePred P] [DecidablePred Q] (h:SpAt H b (s.zap P))(e: ∀i,i<5->(P i ↔ Q i)):SpAt H b (s.zap Q):=h.alike rfl (λi k hi _=>by
 simp only[Sp.zap]
 exact gP (e i hi).symm _ _)
theorem SpAt.zapMore{H:zV}{b:Blk}{s:Sp}{P R Q:Nat->Prop} [DecidablePred P] [DecidablePred R] [DecidablePred Q] (h:SpAt H b ((s.zap P).zap R))(e: ∀i,i<5->(P i\/R i ↔ Q i)):SpAt H b (s.zap Q):=h.alike rfl (λi k hi _=>by
 simp only[Sp.zap]
 by_cases hr:R i
 ·rw[if_pos hr,if_pos ((e i hi).1 (.inr hr))]
 ·rw[if_neg hr]
  exact gP ⟨λhq=>((e i hi).2 hq).resolve_right hr,λhp=>(e i hi).1 (.inl hp)⟩ _ _)
set_option maxRecDepth 100000 in
theorem mv{H:zV}{b:Blk}{s:Sp}{gB:zW}{gN gC:Nat}{gs:List Int}(h:SpAt H b s)(hg:db H gB (ivs gs))(hgn:gN=gs.length)(hgl:gN<=1000)(hgb: ∀i∈blks gB,i≠b.sp):
  cV.C (some ⟨b.sp,0,none⟩) gB gN gC H (λ_ H'=>SpAt H' b (s.fresh gs)/\Fr [b.sp] H H'):=by
 refine HC.via λR hR=>cV.link ?_
 unfold cV.pt zY
 rw[onPtr_some]
 subst hgn
 have h0:SpAt H b (s.zap λi=>(i:Int)<0/\(gs=[]\/(i:Int)∈gs)):=h.alike rfl (λg k _ _=>by simp only[Sp.zap];rw[if_neg (by omega)])
 refine⟨λg A=>(0<=g/\g<=5)/\SpAt A b (s.zap λi=>(i:Int)<g/\(gs=[]\/(i:Int)∈gs))/\Fr [b.sp] H A,λg _=>(5-g).toNat,⟨by omega,h0,Fr.refl _ _⟩,?_⟩
 rintro g H1 ⟨hgb2,h1,f1⟩
 by_cases hlt:g<5
 case neg=>
  rw[if_neg hlt]
  exact hR _ _ ⟨h1.zapTo (λi hi=>⟨λq=>q.2,λq=>⟨by omega,q⟩⟩),f1⟩
 rw[if_pos hlt]
 have hw:IntKind.wrap .i64 (g+1)=g+1:=w64 (by omega)
 have hd:(5-(g+1)).toNat< (5-g).toNat:=by omega
 have src: ∀{A:zV},Fr [b.sp] H A->db A gB (ivs gs):=λ{A} f=>by
  cases gB with
  | none=>exact hg
  | some a=>exact f.rowAt (by have:=hgb a.block (by simp);simp;exact this) hg
 refine⟨λj A=>(0<=j/\j<=gs.length)/\SpAt A b (s.zap λi=>(i:Int)<g/\(gs=[]\/(i:Int)∈gs)\/(i:Int)=g/\g∈gs.take j.toNat)/\Fr [b.sp] H A,λj _=>(gs.length-j).toNat,⟨by omega,h1.zapTo (λi _=>⟨λq=> .inl q,λq=>by
  rcases q with q | q
  ·exact q
  ·simp at q⟩),f1⟩,?_⟩
 rintro j H2 ⟨hj,h2,f2⟩
 by_cases hjl:j< (gs.length:Int)
 ·rw[if_pos hjl]
  have hjn:j.toNat<gs.length:=by omega
  obtain⟨a,ha,hat⟩:=ln (src f2) hjn
  have hwj:IntKind.wrap .i64 (j+1)=j+1:=w64 (by omega)
  have hdj:((gs.length:Int)-(j+1)).toNat< ((gs.length:Int)-j).toNat:=by omega
  have ht:gs.take (j+1).toNat=gs.take j.toNat++[gs[j.toNat]]:=by rw[show(j+1).toNat=j.toNat+1 by omega,List.take_succ_eq_append_getElem hjn]
  refine⟨a,ha,⟨hj.1,hjl⟩,_,hat,?_⟩
  rw[hwj]
  by_cases he:gs[j.toNat]=g
  ·rw[if_pos he]
   have hp:=h2.put4 (g:=g.toNat) (by omega)
   rw[addr_add_mk,addr_add_mk,Nat.zero_add]
   refine⟨⟨hgb2.1,hlt⟩,hp.1,λH3 hH3=>?_⟩
   subst hH3
   refine⟨⟨by omega,hp.2.1.zapMore (λi hi=>⟨λq=>?_,λq=>?_⟩),f2.trans hp.2.2⟩,hdj⟩
   ·rcases q with(q | q) | q
    ·exact .inl q
    ·exact .inr ⟨q.1,by rw[ht];exact List.mem_append_left _ q.2⟩
    ·exact .inr ⟨by omega,by rw[ht,he];simp⟩
   ·rcases q with q | q
    ·exact .inl (.inl q)
    ·exact .inr (by omega)
  ·rw[if_neg he]
   have hm:g∈gs.take (j+1).toNat ↔ g∈gs.take j.toNat:=by
    rw[ht,List.mem_append]
    exact⟨λq=>q.elim id (λq=>absurd (by simpa using q:g=gs[j.toNat]).symm he),.inl⟩
   exact⟨⟨by omega,h2.zapTo (λi hi=>by rw[hm]),f2⟩,hdj⟩
 ·rw[if_neg hjl]
  rw[List.take_of_length_le (by omega)]at h2
  by_cases h0:(gs.length:Int)=0
  ·rw[if_pos h0]
   have hgs:gs=[]:=List.length_eq_zero_iff.1 (by omega)
   have hp:=h2.put4 (g:=g.toNat) (by omega)
   rw[addr_add_mk,addr_add_mk,Nat.zero_add]
   refine⟨⟨hgb2.1,hlt⟩,hp.1,λH3 hH3=>?_⟩
   subst hH3
   rw[hw]
   refine⟨⟨by omega,hp.2.1.zapMore (λi hi=>⟨λq=>?_,λq=>?_⟩),f2.trans hp.2.2⟩,hd⟩
   ·rcases q with(q | q) | q
    ·exact⟨by omega,q.2⟩
    ·exact⟨by omega,.inl hgs⟩
    ·exact⟨by omega,.inl hgs⟩
   ·by_cases hi2:(i:Int)<g
    ·exact .inl (.inl ⟨hi2,q.2⟩)
    ·exact .inr (by omega)
  ·rw[if_neg h0,hw]
   have hne:gs≠[]:=λh=>h0 (by rw[h];rfl)
   refine⟨⟨by omega,h2.zapTo (λi hi=>⟨λq=>?_,λq=>?_⟩),f2⟩,hd⟩
   ·rcases q with q | q
    ·exact⟨by omega,q.2⟩
    ·exact⟨by omega,.inr (by rw[q.1];exact q.2)⟩
   ·by_cases hi2:(i:Int)<g
    ·exact .inl ⟨hi2,q.2⟩
    ·have hig:(i:Int)=g:=by omega
     refine .inr ⟨hig,?_⟩
     rcases q.2 with q | q
     ·exact absurd q hne
     ·rw[<-hig];exact q

def Mem.dirtyAt(m:Mem)(g:Int)(k n:Nat):List (Int×Int):=((List.range n).filter λi=>decide (g< (m.seg k).gen/\(m.seg k).cards i<=g)).map λi:Nat=>((k:Int),(i:Int))
def Mem.dirtyOf(m:Mem)(g:Int)(l:List Nat):List (Int×Int):=l.flatMap λk=>m.dirtyAt g k 4
theorem Mem.dirtyAt_len(m:Mem)(g:Int)(k n:Nat):(m.dirtyAt g k n).length<=n:=by
 unfold Mem.dirtyAt;rw[List.length_map];exact Nat.le_trans (List.length_filter_le _ _) (by simp)
theorem Mem.dirtyOf_len(m:Mem)(g:Int): ∀l:List Nat,(m.dirtyOf g l).length<=4*l.length
 | []=>by simp[Mem.dirtyOf]
 | k::l=>by
  have h1:=m.dirtyAt_len g k 4
  have h2:=m.dirtyOf_len g l
  unfold Mem.dirtyOf at*
  rw[List.flatMap_cons,List.length_append,List.length_cons];omega
theorem Mem.dirtyAt_succ(m:Mem)(g:Int)(k n:Nat):m.dirtyAt g k (n+1)=m.dirtyAt g k n++(if g< (m.seg k).gen/\(m.seg k).cards n<=g then[((k:Int),(n:Int))]else[]):=by
 unfold Mem.dirtyAt
 rw[List.range_succ,List.filter_append,List.map_append]
 congr 1
 by_cases h:g< (m.seg k).gen/\(m.seg k).cards n<=g
 ·rw[if_pos h];simp[h]
 ·rw[if_neg h];simp at h⊢;exact h
theorem Mem.mem_dirty{m:Mem}{g:Int}{l:List Nat}{c:Int×Int}:c∈m.dirtyOf g l ↔ ∃k∈l,∃i:Nat,i<4/\c=((k:Int),(i:Int))/\g< (m.seg k).gen/\(m.seg k).cards i<=g:=by
 unfold Mem.dirtyOf Mem.dirtyAt
 simp only[List.mem_flatMap,List.mem_map,List.mem_filter,List.mem_range,decide_eq_true_eq]
 constructor
 ·rintro⟨k,hk,i,⟨hi,h1,h2⟩,rfl⟩;exact⟨k,hk,i,hi,rfl,h1,h2⟩
 ·rintro⟨k,hk,i,hi,rfl,h1,h2⟩;exact⟨k,hk,i,⟨hi,h1,h2⟩,rfl⟩
theorem kG(a c:List (Int×Int)):df (a++c)=df a++df c:=by unfold df;rw[List.flatMap_append]
set_option maxRecDepth 100000 in
theorem nu{H:zV}{b:Blk}{s:Sp}{g:Int}(h:CdAt H b s)(ok:SpOK s):
  dc.C (some ⟨b.c,0,none⟩) g H (λv H'=> ∃(B:zW) (n c:Nat) (l:List Nat),v=.slice B n c/\eP s.mem [] l/\n=(s.mem.dirtyOf g l).length/\Own H' 103 2 B n c (df (s.mem.dirtyOf g l))/\(∀i∈blks B,H.size<=i)/\Ext H H'):=by
 refine HC.via λR hR=>dc.link ?_
 unfold dc.pt zY
 refine HC.mono (jp h) ?_
 rintro _ H1 ⟨rfl,rfl⟩
 refine⟨_,rfl,?_⟩
 rw[if_neg (by decide)]
 refine⟨_,rfl,_,h.cPtr,_,rfl,_,h.sp.memPtr,?_⟩
 refine HC.mono (ib (gs:=[]) h.sp.mem ok.mem (show db H1 none (ivs [])from rfl) rfl (by decide)) ?_
 rintro _ H2 ⟨B0,c0,l,rfl,hl,how0,hfr0,e2⟩
 refine⟨_,_,_,rfl,?_⟩
 have hlen:=hl.len
 have hlim:=ok.mem.lim
 refine⟨λB n c i A=>(0<=i/\i<=l.length)/\n=(s.mem.dirtyOf g (l.take i.toNat)).length/\Own A 103 2 B n c (df (s.mem.dirtyOf g (l.take i.toNat)))/\(∀j∈blks B,H2.size<=j)/\Ext H2 A,λ_ _ _ i _=>(l.length-i).toNat,
  ⟨by omega,rfl,gJ,by simp,Ext.refl _⟩,?_⟩
 rintro B n c i H3 ⟨hi,rfl,how,hfr,e3⟩
 by_cases hlt:i< (l.length:Int)
 case neg=>
  rw[if_neg hlt]
  rw[List.take_of_length_le (by omega)]at how⊢
  exact hR _ _ ⟨B,_,c,l,rfl,hl,rfl,how,λj hj=>by have:=hfr j hj;have:=e2.size;omega,e2.trans e3⟩
 rw[if_pos hlt]
 have hil:i.toNat<l.length:=by omega
 obtain⟨a,ha,hata⟩:=lX (how0.ext e3) hil
 obtain⟨khas,klim,kpos,_⟩:=hl.has (List.getElem_mem hil)
 have ht:l.take (i+1).toNat=l.take i.toNat++[l[i.toNat]]:=by rw[show(i+1).toNat=i.toNat+1 by omega,List.take_succ_eq_append_getElem hil]
 generalize hk:l[i.toNat]=k at*
 have h3:=h.ext (e2.trans e3)
 have ld:=s.mem.dirtyOf_len g (l.take i.toNat)
 have ll:(l.take i.toNat).length<=1024:=by rw[List.length_take];omega
 refine⟨a,ha,⟨hi.1,hlt⟩,(k:Int),hata,_,h3.cPtr,_,rfl,_,h3.sp.memPtr,?_⟩
 refine HC.mono (eO h3.sp.mem) ?_
 rintro _ H4 ⟨rfl,e4⟩
 have hsg:s.mem.segOr k=s.mem.seg k:=by unfold Mem.segOr;rw[if_pos khas,show((k:Nat):Int).toNat=k by omega]
 rw[hsg]
 refine⟨_,_,_,_,_,_,_,_,rfl,λc5 H5 hc5 hH5=>?_⟩
 obtain⟨hcp,hs⟩:=gE (s.mem.seg k) hc5 hH5
 refine⟨hcp,λH6 hH6=>?_⟩
 obtain⟨e6,hg6,_,_,hr6⟩:=hs H6 hH6
 have hr6':=hr6
 simp only[aU,and_true,addr_add_mk,Nat.zero_add]at hr6'
 refine⟨(s.mem.seg k).cards 0,(s.mem.seg k).cards 1,(s.mem.seg k).cards 2,(s.mem.seg k).cards 3,?_,?_⟩
 ·rw[addr_add_mk]
  refine⟨?_,?_,?_,?_,trivial⟩<;>rw[addr_add_mk]
  ·exact hr6'.2.2.2.1
  ·exact hr6'.2.2.2.2.1
  ·exact hr6'.2.2.2.2.2.1
  ·exact hr6'.2.2.2.2.2.2
 have e36:=e4.trans e6
 have c5n:H3.size<=c5:=by have:=e4.size;omega
 have hw:IntKind.wrap .i64 (i+1)=i+1:=w64 (by omega)
 have hdi:((l.length:Int)-(i+1)).toNat< ((l.length:Int)-i).toNat:=by omega
 refine⟨λB' n' c' j A=>(0<=j/\j<=4)/\n'=(s.mem.dirtyOf g (l.take i.toNat)++s.mem.dirtyAt g k j.toNat).length/\Own A 103 2 B' n' c' (df (s.mem.dirtyOf g (l.take i.toNat)++s.mem.dirtyAt g k j.toNat))/\(∀j∈blks B',H2.size<=j/\j≠c5)/\Ext H2 A/\hat A ⟨c5,0,none⟩=some (.int .i64 (s.mem.seg k).gen),λ_ _ _ j _=>(4-j).toNat,
  ⟨by omega,by simp[Mem.dirtyAt],by simpa[Mem.dirtyAt]using how.ext e36,λj hj=>⟨hfr j hj,by have:=how.lt j hj;omega⟩,e3.trans e36,hg6⟩,?_⟩
 rintro B' n' c' j H7 ⟨hj,rfl,how7,hfr7,e7,hg7⟩
 by_cases hj4:j<4
 case neg=>
  rw[if_neg hj4,hw]
  have hj':j.toNat=4:=by omega
  rw[hj']at how7⊢
  have hd:s.mem.dirtyOf g (l.take (i+1).toNat)=s.mem.dirtyOf g (l.take i.toNat)++s.mem.dirtyAt g k 4:=by
   rw[ht];unfold Mem.dirtyOf;rw[List.flatMap_append];simp
  refine⟨⟨by omega,by rw[hd],by rw[hd];exact how7,λj hj=>(hfr7 j hj).1,e7⟩,hdi⟩
 rw[if_pos hj4]
 have hcd: ∃q:Nat,j=q/\q<4:=⟨j.toNat,by omega,by omega⟩
 obtain⟨jn,rfl,hjn⟩:=hcd
 have hwj:IntKind.wrap .i64 ((jn:Int)+1)=(jn:Int)+1:=w64 (by omega)
 have hsucc:((jn:Int)+1).toNat=jn+1:=by omega
 refine⟨(s.mem.seg k).cards jn,⟨⟨by omega,hj4⟩,?_⟩,_,hg7,?_⟩
 ·rcases(show jn=0\/jn=1\/jn=2\/jn=3 by omega)with rfl | rfl | rfl | rfl<;>rfl
 rw[hwj]
 have hjt:((jn:Int)).toNat=jn:=by omega
 rw[hjt]at how7
 rw[hjt]
 have hda:=s.mem.dirtyAt_len g k jn
 have hdj:(4-((jn:Int)+1)).toNat< (4-(jn:Int)).toNat:=by omega
 by_cases hd:g< (s.mem.seg k).gen/\(s.mem.seg k).cards jn<=g
 ·rw[if_pos (by simp;exact⟨hd.1,hd.2⟩)]
  intro c8 H8 hc8 hH8
  have e8:Ext H7 H8:=Ext.push' hH8
  refine eh (ys:=[.int .i64 (k:Int),.int .i64 (jn:Int)]) (how7.ext e8) (dH (aL hc8 hH8) _ 0 0 (λj hj=>by
   simp only[List.length_cons,List.length_nil]at hj
   rcases(show j=0\/j=1 by omega)with rfl | rfl<;>rfl)) rfl rfl rfl (by rw[List.length_append];omega) ?_
  intro p' c9 H9 how9 f9 hn9
  have hs9:s.mem.dirtyAt g k (jn+1)=s.mem.dirtyAt g k jn++[((k:Int),(jn:Int))]:=by rw[Mem.dirtyAt_succ,if_pos hd]
  refine⟨⟨by omega,by rw[hsucc,hs9];simp;omega,?_,λj hj=>?_,(e7.trans e8).fr_trans f9 (λj hj=>(hfr7 j hj).1),f9.hat (λhm=>(hfr7 _ hm).2 rfl) (e8.hat hg7)⟩,hdj⟩
  ·rw[hsucc,hs9,<-List.append_assoc,kG];exact how9
  ·rcases hn9 j hj with q | q
   ·exact hfr7 j q
   ·have:=e7.size;have:=e8.size
    have h5:c5<H7.size:=by
     unfold Go.Proofs.YtffacgdneichhaaGreatDoor.hat at hg7
     rcases Nat.lt_or_ge c5 H7.size with h | h
     ·exact h
     ·simp[Array.getElem?_eq_none h]at hg7
    exact⟨by omega,by omega⟩
 ·rw[if_neg (by simpa using hd)]
  have hs9:s.mem.dirtyAt g k (jn+1)=s.mem.dirtyAt g k jn:=by rw[Mem.dirtyAt_succ,if_neg hd,List.append_nil]
  exact⟨⟨by omega,by rw[hsucc,hs9],by rw[hsucc,hs9];exact how7,hfr7,e7,hg7⟩,hdj⟩
