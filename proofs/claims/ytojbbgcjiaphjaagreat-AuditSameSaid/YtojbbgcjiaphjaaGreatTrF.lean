/-
  What was copied is looked at (package trace): look, Cards. Proves nothing of any one statement.
-/
import Derived.Test.YtojbbgcjiaphjaaGreatTrB
import Derived.Test.YtojbbgcjiaphjaaGreatWords
set_option linter.unusedVariables false
set_option linter.unusedSimpArgs false
namespace Go.Proofs.YtojbbgcjiaphjaaGreat
open Go

theorem Mem.size_kind{m:Mem}{w:Int}(h:m.sizeOf w≠0):(m.kindOf w=0\/m.kindOf w=1)/\m.sizeOf w=2\/(m.kindOf w=2\/m.kindOf w=3):=by
  unfold Mem.sizeOf Mem.kindOf at*
  by_cases hp:m.isPair w
  · rw[if_pos hp]
    rcases hp.1 with q | q
    · exact .inl ⟨.inl q.2.2.2.1,rfl⟩
    · exact .inl ⟨.inr q.2.2.2.1,rfl⟩
  · rw[if_neg hp]at h
    by_cases ho:m.isObj w
    · have:=ho.1.2.2.2.1
      right
      unfold rawK at this
      split at this<;>omega
    · rw[if_neg ho]at h;exact absurd rfl h
theorem Sp.visit_even{s:Sp}(ok:SpOK s)(he:s.mem.Even)(old:Nat->Bool)(T w:Int):(s.visit old T w).1.mem.Even:=by
  unfold Sp.visit
  split
  · exact he
  split
  · exact he
  split
  · exact he
  rename_i h0
  split
  · rename_i ha
    obtain⟨_,gr⟩:=Sp.alloc_ok ok ha
    have h1:=(gr.even he (λhk=>by rcases Mem.size_kind h0 with q | q<;>omega)).1
    exact(bY.set _ _ _).even ((bY.sets _ _ _).even h1)
  · exact he
theorem Sp.visit_word{s:Sp}(ok:SpOK s){old:Nat->Bool}{T w:Int}(hw:aP w):aP (s.visit old T w).2:=by
  unfold Sp.visit
  split
  · exact hw
  split
  · rename_i v hf
    unfold Mem.fwd at hf
    split at hf
    · rename_i hh
      have h1:=hh.2.1.2
      have h2:=((ok.mem.seg (w / 8 / 64).toNat).words (w / 8 % 64).toNat).1
      have h3:s.mem.get (w / 8)=(s.mem.seg (w / 8 / 64).toNat).words (w / 8 % 64).toNat:=rfl
      simp only[Option.some.injEq]at hf
      have h4:=hw.1
      rw[h3]at h1 hf
      generalize (s.mem.seg (w / 8 / 64).toNat).words (w / 8 % 64).toNat=g at h1 h2 hf
      rw[<-hf]
      exact⟨by omega,by omega⟩
    · cases hf
  split
  · exact hw
  split
  · rename_i ha
    obtain⟨_,gr⟩:=Sp.alloc_ok ok ha
    have hl:=ok.mem.lim
    obtain⟨a0,a1,a2⟩:=gr.addr
    have:=hw.1
    exact⟨by simp only[];omega,by simp only[];omega⟩
  · exact hw

structure Tg (H:zV) (b:Blk) (x:Hp) (q:TB) (t:Tr):Prop extends Tc H b x q t where
  even:x.sp.mem.Even
  cf:x.sp.cf<4611686018427387904
  on:t.over=false
theorem Tg.lt{H:zV}{b:Blk}{x:Hp}{q:TB}{t:Tr}(h:Tg H b x q t){i:Nat}(hi:i∈b.all\/i∈q.all):i<H.size:=by
  rcases hi with hi | hi
  · exact h.hp.lt i hi
  · exact h.tr.lt i hi
def Mem.read(m:Mem)(a:Int):Int:=if m.used a then m.get a else 0
def Mem.wr(m:Mem)(a w:Int):Mem:=if m.used a then m.set a w else m
theorem Mem.read_word{m:Mem}(ok:bO m)(a:Int):aP (m.read a):=by
  unfold Mem.read
  split
  · exact(ok.seg _).words _
  · decide
theorem bY.wr(m:Mem)(a w:Int):bY m (m.wr a w):=by
  unfold Mem.wr
  split
  · exact bY.set m a w
  · exact bY.refl m
theorem SpOK.wr{s:Sp}(ok:SpOK s)(a:Int){w:Int}(hw:aP w):SpOK {s with mem:=s.mem.wr a w}:=
  ok.withMem (by unfold Mem.wr; split; · exact ok.mem.set a hw
                 · exact ok.mem) (λk h=>(bY.wr _ _ _).has.2 h) (λk=>⟨((bY.wr _ _ _).seg k).1,((bY.wr _ _ _).seg k).2.1⟩)
def Sp.lookAt(s:Sp)(old:Nat->Bool)(T a:Int):Sp:=
  {(s.visit old T (s.mem.read a)).1 with mem:=(s.visit old T (s.mem.read a)).1.mem.wr a (s.visit old T (s.mem.read a)).2}
theorem Sp.lookAt_even{s:Sp}(ok:SpOK s)(he:s.mem.Even)(old:Nat->Bool)(T a:Int):(s.lookAt old T a).mem.Even:=
  (bY.wr _ _ _).even (Sp.visit_even ok he old T _)
def looks(kind i:Int):Prop:=kind≠3/\(kind≠1\/i % 2=1)
instance (kind i:Int):Decidable (looks kind i):=by unfold looks;infer_instance
def Sp.look(s:Sp)(old:Nat->Bool)(T seg kind lo:Int):Nat->Sp
  | 0=>s
  | n+1=>if looks kind (lo+n)then(s.look old T seg kind lo n).lookAt old T (seg*64+(lo+n))else s.look old T seg kind lo n
def Mem.segOr(m:Mem)(k:Int):Seg:=if m.has k then m.seg k.toNat else Seg.none
theorem Mem.len_rng(m:Mem)(w:Int):0<=m.len w/\m.len w<=62:=by
  unfold Mem.len
  split
  · rename_i h;exact h.len_lt
  · omega

theorem jH{H:zV}{bm bs:Nat}{m:Mem}{k:Int}(h:cK H bm bs m):
  cE.C (some ⟨bm,0,none⟩) k H (λv H'=>v=.tuple #[(m.segOr k).head,.bool (decide (m.has k))]/\Ext H H'):=kd h
theorem ke{H H1:zV}{c:Nat}(sg:Seg)(hc:c=H.size)(hH1:H1=H.push (.cells #[.int .i64 0,.int .i64 0,.int .i64 0,.int .i64 0,.int .i64 0,.int .i64 0,.int .i64 0] 89)):
  aK H1 ⟨c,0,none⟩ 0 7/\ ∀H2,H2=aU H1 ⟨c,0,none⟩ [.int .i64 sg.gen,.int .i64 sg.kind,.int .i64 sg.n,.int .i64 (sg.cards 0),.int .i64 (sg.cards 1),.int .i64 (sg.cards 2),.int .i64 (sg.cards 3)] 0->Ext H H2/\
   hat H2 ⟨c,0,none⟩=some (.int .i64 sg.gen)/\hat H2 ⟨c,1,none⟩=some (.int .i64 sg.kind)/\hat H2 ⟨c,2,none⟩=some (.int .i64 sg.n)/\aS H2 ⟨c,0,none⟩ 0 [.int .i64 sg.gen,.int .i64 sg.kind,.int .i64 sg.n,.int .i64 (sg.cards 0),.int .i64 (sg.cards 1),.int .i64 (sg.cards 2),.int .i64 (sg.cards 3)]:=by
 obtain⟨hc1,hs⟩:=boxed (vs:=[.int .i64 sg.gen,.int .i64 sg.kind,.int .i64 sg.n,.int .i64 (sg.cards 0),.int .i64 (sg.cards 1),.int .i64 (sg.cards 2),.int .i64 (sg.cards 3)]) (H1:=H1) (aG hc hH1) rfl rfl
 refine⟨hc1,λH2 hH2=>?_⟩
 obtain⟨hr,hE⟩:=hs H2 hH2
 exact⟨hE H (Ext.push' hH1) (by omega),hr.1,hr.2.1,hr.2.2.1,hr⟩
def seenAt(ks:List (Int×Value))(k:Int):Int:=match mget ks k with | some (.int .i64 n)=>n | _=>0
def nQ(ks:List (Int×Value)):Prop:= ∀k v,mget ks k=some v-> ∃n:Int,v=.int .i64 n/\0<=n/\n<=64
theorem jm(ks:List (Int×Value))(k a:Int)(v:Value):mget (mput ks k v) a=if a=k then some v else mget ks a:=by
 induction ks with
 | nil=>
  simp only[mput,mget,List.find?_cons]
  by_cases h:a=k
  ·simp[h]
  ·simp[h]
 | cons p ks ih=>
  simp only[mput]
  by_cases h:k=p.1
  ·rw[if_pos h]
   simp only[mget,List.find?_cons]
   by_cases ha:a=k
   ·simp[ha]
   ·simp[ha,<-h]
  ·rw[if_neg h]
   simp only[mget,List.find?_cons]at ih⊢
   by_cases ha:a=p.1
   ·subst ha
    have: ¬p.1=k:=λe=>h e.symm
    simp[this]
   ·simp only[ha,decide_false,Bool.false_eq_true]
    exact ih
theorem nQ.put{ks:List (Int×Value)}(h:nQ ks){k n:Int}(hn:0<=n/\n<=64):nQ (mput ks k (.int .i64 n)):=by
 intro a v hv
 rw[jm]at hv
 by_cases ha:a=k
 ·rw[if_pos ha]at hv;cases hv;exact⟨n,rfl,hn⟩
 ·rw[if_neg ha]at hv;exact h a v hv
inductive jI (old:Nat->Bool) (T:Int) (s0:Sp) (k0:List (Int×Value)):Sp->List (Int×Value)->Prop
 | refl:jI old T s0 k0 s0 k0
 | step {s:Sp} {ks:List (Int×Value)} (k:Int) (h:jI old T s0 k0 s ks) (hk:s.mem.has k) (hg:(s.mem.seg k.toNat).gen=T) (ho:old k.toNat=false) (hn:seenAt ks k< (s.mem.seg k.toNat).n):
   jI old T s0 k0 (s.look old T k (s.mem.seg k.toNat).kind (seenAt ks k) ((s.mem.seg k.toNat).n-seenAt ks k).toNat) (mput ks k (.int .i64 (s.mem.seg k.toNat).n))
theorem jI.trans{old:Nat->Bool}{T:Int}{a b c:Sp}{ka kb kc:List (Int×Value)}(h:jI old T a ka b kb)(k:jI old T b kb c kc):jI old T a ka c kc:=by
 induction k with
 | refl=>exact h
 | step k _ hk hg ho hn ih=>exact .step k ih hk hg ho hn
structure eN (m m':Mem):Prop where
 limit:m'.limit=m.limit
 seg: ∀k,(m.seg k).taken≠0->(m'.seg k).gen=(m.seg k).gen/\(m'.seg k).kind=(m.seg k).kind/\(m'.seg k).taken=(m.seg k).taken/\(m.seg k).n<=(m'.seg k).n
 cards: ∀k,(m.seg k).taken≠0->(m'.seg k).cards=(m.seg k).cards
theorem eN.refl(m:Mem):eN m m:=⟨rfl,λ_ _=>⟨rfl,rfl,rfl,Int.le_refl _⟩,λ_ _=>rfl⟩
theorem eN.trans{a b c:Mem}(h:eN a b)(k:eN b c):eN a c:=⟨k.limit.trans h.limit,λi hi=>by
 obtain⟨h1,h2,h3,h4⟩:=h.seg i hi
 obtain⟨k1,k2,k3,k4⟩:=k.seg i (by rw[h3];exact hi)
 exact⟨k1.trans h1,k2.trans h2,k3.trans h3,Int.le_trans h4 k4⟩,λi hi=>(k.cards i (by rw[(h.seg i hi).2.2.1];exact hi)).trans (h.cards i hi)⟩
theorem bY.heads{m m':Mem}(h:bY m m'):eN m m':=⟨h.limit,λk _=>⟨(h.seg k).1,(h.seg k).2.1,(h.seg k).2.2.2.1,by rw[(h.seg k).2.2.1];exact Int.le_refl _⟩,λk _=>(h.seg k).2.2.2.2⟩
theorem Grown.heads{m m':Mem}{a g k n:Int}(gr:Grown m m' a n g k)(hn:0<=n):eN m m':=⟨gr.limit,λi hi=>by
 by_cases hj:i=(a / 64).toNat
 ·subst hj
  obtain⟨o1,o2,o3,o4,o5,o6⟩:=gr.old hi
  obtain⟨n1,n2,n3,n4⟩:=gr.new
  exact⟨n2.trans o1.symm,n3.trans o2.symm,o6,by rw[n4,o3];omega⟩
 ·rw[gr.others i hj];exact⟨rfl,rfl,rfl,Int.le_refl _⟩,λi hi=>by
 by_cases hj:i=(a / 64).toNat
 ·subst hj;exact(gr.old hi).2.2.2.2.1
 ·rw[gr.others i hj]⟩
theorem eN.has{m m':Mem}(h:eN m m'){k:Int}(hk:m.has k):m'.has k:=⟨hk.1,by rw[h.limit];exact hk.2.1,by rw[(h.seg _ hk.2.2).2.2.1];exact hk.2.2⟩
theorem Sp.visit_heads{s:Sp}(ok:SpOK s)(he:s.mem.Even){old:Nat->Bool}{T w:Int}(hw:aP w):eN s.mem (s.visit old T w).1.mem:=by
 unfold Sp.visit
 split
 ·exact eN.refl _
 split
 ·exact eN.refl _
 split
 ·exact eN.refl _
 rename_i h0
 split
 ·rename_i ha
  obtain⟨_,gr⟩:=Sp.alloc_ok ok ha
  have hs:=Mem.size_used ok.mem he hw h0
  exact((gr.heads (by omega)).trans (bY.sets _ _ _).heads).trans (bY.set _ _ _).heads
 ·exact eN.refl _
theorem Sp.lookAt_heads{s:Sp}(ok:SpOK s)(he:s.mem.Even){old:Nat->Bool}{T a:Int}:eN s.mem (s.lookAt old T a).mem:=
 (Sp.visit_heads ok he (Mem.read_word ok.mem a)).trans (bY.wr _ _ _).heads
theorem Sp.visit_ok{s:Sp}(ok:SpOK s){old:Nat->Bool}{T w:Int}(hw:aP w)(ht:eV old w->True):SpOK (s.visit old T w).1:=by
 unfold Sp.visit
 split
 ·exact ok
 split
 ·exact ok
 split
 ·exact ok
 split
 ·rename_i ha
  obtain⟨ok2,gr⟩:=Sp.alloc_ok ok ha
  have hlim:=ok.mem.lim
  obtain⟨a0,a1,a2⟩:=gr.addr
  have ok3:=ok2.sets (s.alloc T (s.mem.kindOf w) (s.mem.sizeOf w)).2.1 (ws:=s.mem.row (w / 8) (s.mem.sizeOf w).toNat) (λv hv=>by
   unfold Mem.row at hv
   obtain⟨i,_,rfl⟩:=List.mem_map.1 hv
   exact(ok.mem.seg _).words _)
  exact ok3.withMem (ok3.mem.set (w / 8) ⟨by omega,by omega⟩) (λk h=>Mem.set_has.2 h) (λk=>⟨((bY.set _ _ _).seg k).1,((bY.set _ _ _).seg k).2.1⟩)
 ·exact ok
theorem Sp.lookAt_ok{s:Sp}(ok:SpOK s){old:Nat->Bool}{T a:Int}:SpOK (s.lookAt old T a):=
 SpOK.wr (Sp.visit_ok ok (Mem.read_word ok.mem a) (λ_=>trivial)) a (Sp.visit_word ok (Mem.read_word ok.mem a))
theorem Sp.look_ok{s:Sp}(ok:SpOK s)(he:s.mem.Even){old:Nat->Bool}{T seg kind lo:Int}: ∀n,SpOK (s.look old T seg kind lo n)/\(s.look old T seg kind lo n).mem.Even/\eN s.mem (s.look old T seg kind lo n).mem
 | 0=>⟨ok,he,eN.refl _⟩
 | n+1=>by
  obtain⟨h1,h2,h3⟩:=Sp.look_ok ok he (old:=old) (T:=T) (seg:=seg) (kind:=kind) (lo:=lo) n
  unfold Sp.look
  split
  ·exact⟨Sp.lookAt_ok h1,Sp.lookAt_even h1 h2 _ _ _,h3.trans (Sp.lookAt_heads h1 h2)⟩
  ·exact⟨h1,h2,h3⟩
theorem jI.heads{old:Nat->Bool}{T:Int}{a b:Sp}{ka kb:List (Int×Value)}(h:jI old T a ka b kb)(ok:SpOK a)(he:a.mem.Even):SpOK b/\b.mem.Even/\eN a.mem b.mem:=by
 induction h with
 | refl=>exact⟨ok,he,eN.refl _⟩
 | step k _ _ _ _ _ ih=>
  obtain⟨h1,h2,h3⟩:=ih
  obtain⟨k1,k2,k3⟩:=Sp.look_ok h1 h2 (old:=old) (T:=T) (seg:=k) (kind:=(_:Int)) (lo:=_) _
  exact⟨k1,k2,h3.trans k3⟩

def Sp.zap(s:Sp)(P:Nat->Prop) [DecidablePred P]:Sp:={s with cur:=λi j=>if P i then 0 else s.cur i j}
def Sp.fresh(s:Sp)(gs:List Int):Sp:=s.zap (λi=>gs=[]\/(i:Int)∈gs)
theorem qe{α:Type}{p q:Prop} [Decidable p] [Decidable q] (h:p ↔ q)(x y:α):(if p then x else y)=if q then x else y:=by
 by_cases hp:p
 ·rw[if_pos hp,if_pos (h.1 hp)]
 ·rw[if_neg hp,if_neg (λhq=>hp (h.2 hq))]
def Mem.dirtyAt(m:Mem)(g:Int)(k n:Nat):List (Int×Int):=((List.range n).filter λi=>decide (g< (m.seg k).gen/\(m.seg k).cards i<=g)).map λi:Nat=>((k:Int),(i:Int))
def Mem.dirtyOf(m:Mem)(g:Int)(l:List Nat):List (Int×Int):=l.flatMap λk=>m.dirtyAt g k 4
