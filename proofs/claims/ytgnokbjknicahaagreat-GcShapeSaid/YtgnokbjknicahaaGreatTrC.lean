/-
  What was copied is looked at (package trace): look, Cards. Proves nothing of any one statement.
-/
import Derived.Test.YtgnokbjknicahaaGreatTrB
import Derived.Test.YtgnokbjknicahaaGreatRow
set_option linter.unusedVariables false
set_option linter.unusedSimpArgs false
namespace Go.Proofs.YtgnokbjknicahaaGreat
open Go

def Sp.cf(s:Sp):Int:=s.mem.count+s.mem.free
theorem Sp.cf_count{s:Sp}(ok:SpOK s)(h:s.cf<4611686018427387904):s.mem.count<4611686018427387904:=by
  have:=ok.mem.free;unfold Sp.cf at h;omega
theorem Mem.take_cf(m:Mem)(g k:Int):(m.take g k).1.count+(m.take g k).1.free=m.count+m.free:=by
  unfold Mem.take
  split
  · rfl
  split
  · rfl
  · show m.count+1+(m.free-1)=_;omega
theorem Sp.alloc_cf(s:Sp)(g k n:Int):(s.alloc g k n).1.cf=s.cf:=by
  unfold Sp.alloc Sp.cf
  split
  · rfl
  split
  · show(s.mem.bump _ _).1.count+(s.mem.bump _ _).1.free=_
    rw[(Mem.bump_lim _ _ _).2.1,(Mem.bump_lim _ _ _).2.2]
  split
  · show((s.mem.take g k).1.bump _ _).1.count+((s.mem.take g k).1.bump _ _).1.free=_
    rw[(Mem.bump_lim _ _ _).2.1,(Mem.bump_lim _ _ _).2.2]
    exact Mem.take_cf _ _ _
  · rfl
theorem Sp.moved_cf(m:Mem)(w:Int)(r:Sp×Int×Int):(Sp.moved m w r).cf=r.1.cf:=by
  unfold Sp.moved Sp.cf
  have h1:=Same'.sets (m.row (w / 8) (m.sizeOf w).toNat) r.1.mem r.2.1
  have h2:=Same'.set (r.1.mem.sets r.2.1 (m.row (w / 8) (m.sizeOf w).toNat)) (w / 8) (r.2.1*8+6)
  simp only[]
  rw[h2.count,h2.free,h1.count,h1.free]
theorem Sp.visit_cf(s:Sp)(old:Nat->Bool)(T w:Int):(s.visit old T w).1.cf=s.cf:=by
  unfold Sp.visit
  split
  · rfl
  split
  · rfl
  split
  · rfl
  split
  · show(Sp.moved _ _ _).cf=_
    rw[Sp.moved_cf,Sp.alloc_cf]
  · rfl
theorem Mem.size_kind{m:Mem}{w:Int}(h:m.sizeOf w≠0):(m.kindOf w=0\/m.kindOf w=1)/\m.sizeOf w=2\/(m.kindOf w=2\/m.kindOf w=3):=by
  unfold Mem.sizeOf Mem.kindOf at*
  by_cases hp:m.isPair w
  · rw[if_pos hp]
    rcases hp.1 with q | q
    · exact .inl ⟨.inl q.2.2.2.1,rfl⟩
    · exact .inl ⟨.inr q.2.2.2.1,rfl⟩
  · rw[if_neg hp]at h
    by_cases ho:m.isObj w
    · have:=ho.1.2.2.2.1
      right
      unfold rawK at this
      split at this<;>omega
    · rw[if_neg ho]at h;exact absurd rfl h
theorem Sp.visit_even{s:Sp}(ok:SpOK s)(he:s.mem.Even)(old:Nat->Bool)(T w:Int):(s.visit old T w).1.mem.Even:=by
  unfold Sp.visit
  split
  · exact he
  split
  · exact he
  split
  · exact he
  rename_i h0
  split
  · rename_i ha
    obtain⟨_,gr⟩:=Sp.alloc_ok ok ha
    have h1:=(gr.even he (λhk=>by rcases Mem.size_kind h0 with q | q<;>omega)).1
    exact(Same'.set _ _ _).even ((Same'.sets _ _ _).even h1)
  · exact he
theorem Sp.visit_word{s:Sp}(ok:SpOK s){old:Nat->Bool}{T w:Int}(hw:IsWord w):IsWord (s.visit old T w).2:=by
  unfold Sp.visit
  split
  · exact hw
  split
  · rename_i v hf
    unfold Mem.fwd at hf
    split at hf
    · rename_i hh
      have h1:=hh.2.1.2
      have h2:=((ok.mem.seg (w / 8 / 64).toNat).words (w / 8 % 64).toNat).1
      have h3:s.mem.get (w / 8)=(s.mem.seg (w / 8 / 64).toNat).words (w / 8 % 64).toNat:=rfl
      simp only[Option.some.injEq]at hf
      have h4:=hw.1
      rw[h3]at h1 hf
      generalize (s.mem.seg (w / 8 / 64).toNat).words (w / 8 % 64).toNat=g at h1 h2 hf
      rw[<-hf]
      exact⟨by omega,by omega⟩
    · cases hf
  split
  · exact hw
  split
  · rename_i ha
    obtain⟨_,gr⟩:=Sp.alloc_ok ok ha
    have hl:=ok.mem.lim
    obtain⟨a0,a1,a2⟩:=gr.addr
    have:=hw.1
    exact⟨by simp only[];omega,by simp only[];omega⟩
  · exact hw

structure Tg (H:zV) (b:Blk) (x:Hp) (q:TB) (t:Tr):Prop extends Tc H b x q t where
  even:x.sp.mem.Even
  cf:x.sp.cf<4611686018427387904
  on:t.over=false
theorem Tg.grow{H H':zV}{b:Blk}{x:Hp}{q:TB}{t:Tr}(h:Tg H b x q t)(e:Ext H H'):Tg H' b x q t:=⟨h.toTc.ext e,h.even,h.cf,h.on⟩
theorem Tg.stay{S:List Nat}{H H':zV}{b:Blk}{x:Hp}{q:TB}{t:Tr}(h:Tg H b x q t)(f:Fr S H H')(h1: ∀i,i∈S->i ∉ b.all)(h2: ∀i,i∈S->i ∉ q.all):Tg H' b x q t:=⟨h.toTc.keep f h1 h2,h.even,h.cf,h.on⟩
theorem Tg.lt{H:zV}{b:Blk}{x:Hp}{q:TB}{t:Tr}(h:Tg H b x q t){i:Nat}(hi:i∈b.all\/i∈q.all):i<H.size:=by
  rcases hi with hi | hi
  · exact h.hp.lt i hi
  · exact h.tr.lt i hi
theorem tg_Visit_c{H:zV}{b:Blk}{x:Hp}{q:TB}{t:Tr}{w:Int}(T:Tg H b x q t)(hw:IsWord w):
    trace_Trace_Visit.C (some ⟨q.t,0,none⟩) w H (λv H'=>v=.int .u64 (x.sp.visit t.old t.tgt w).2/\Tg H' b {x with sp:=(x.sp.visit t.old t.tgt w).1} q t/\Fr (spB b) H H'):=
  HC.mono (tr_Visit_c T.toTc T.even hw (Sp.cf_count T.ok T.cf) T.on) (λ_ _ h=>⟨h.1,⟨h.2.1,Sp.visit_even T.ok T.even _ _ _,by show(x.sp.visit t.old t.tgt w).1.cf<_;rw[Sp.visit_cf];exact T.cf,T.on⟩,h.2.2⟩)

def Mem.read(m:Mem)(a:Int):Int:=if m.used a then m.get a else 0
def Mem.wr(m:Mem)(a w:Int):Mem:=if m.used a then m.set a w else m
theorem Mem.read_word{m:Mem}(ok:MemOK m)(a:Int):IsWord (m.read a):=by
  unfold Mem.read
  split
  · exact(ok.seg _).words _
  · decide
theorem Same'.wr(m:Mem)(a w:Int):Same' m (m.wr a w):=by
  unfold Mem.wr
  split
  · exact Same'.set m a w
  · exact Same'.refl m
theorem SpOK.wr{s:Sp}(ok:SpOK s)(a:Int){w:Int}(hw:IsWord w):SpOK {s with mem:=s.mem.wr a w}:=
  ok.withMem (by unfold Mem.wr; split; · exact ok.mem.set a hw
                 · exact ok.mem) (λk h=>(Same'.wr _ _ _).has.2 h) (λk=>⟨((Same'.wr _ _ _).seg k).1,((Same'.wr _ _ _).seg k).2.1⟩)
def Sp.lookAt(s:Sp)(old:Nat->Bool)(T a:Int):Sp:=
  {(s.visit old T (s.mem.read a)).1 with mem:=(s.visit old T (s.mem.read a)).1.mem.wr a (s.visit old T (s.mem.read a)).2}
theorem Sp.lookAt_even{s:Sp}(ok:SpOK s)(he:s.mem.Even)(old:Nat->Bool)(T a:Int):(s.lookAt old T a).mem.Even:=
  (Same'.wr _ _ _).even (Sp.visit_even ok he old T _)
theorem Sp.lookAt_cf(s:Sp)(old:Nat->Bool)(T a:Int):(s.lookAt old T a).cf=s.cf:=by
  have h:=Same'.wr (s.visit old T (s.mem.read a)).1.mem a (s.visit old T (s.mem.read a)).2
  have:(s.lookAt old T a).cf=(s.visit old T (s.mem.read a)).1.cf:=by
    unfold Sp.lookAt Sp.cf;simp only[];rw[h.count,h.free]
  rw[this,Sp.visit_cf]
set_option maxRecDepth 100000 in
theorem tr_look1_c{H:zV}{b:Blk}{x:Hp}{q:TB}{t:Tr}{a:Int}{c:Nat}(T:Tg H b x q t)(ha:I64 a)(hc:hat H ⟨c,0,none⟩=some (.pointer (some ⟨q.t,0,none⟩)))(hcb:c ∉ spB b):
    trace_Trace_look_1.C a (some ⟨c,0,none⟩) H (λ_ H'=>Tg H' b {x with sp:=x.sp.lookAt t.old t.tgt a} q t/\Fr (spB b) H H'):=by
  refine HC.via λR hR=>trace_Trace_look_1.link ?_
  unfold trace_Trace_look_1.pt
  obtain⟨p1,p2,p3,p4⟩:=T.s1
  refine⟨_,rfl,_,hc,_,rfl,_,p1,_,rfl,_,p2,_,rfl,_,p3,_,rfl,_,p4,?_⟩
  refine HC.mono (seg_Read_c T.hp.cd.sp.mem T.ok.mem (by omega)) ?_
  rintro _ H1 ⟨rfl,rfl⟩
  have hv: ∃e:Int,(if x.sp.mem.used a then Value.tuple #[.int .u64 (x.sp.mem.get a),.int .i64 0]else .tuple #[.int .u64 0,.int .i64 18])=.tuple #[.int .u64 (x.sp.mem.read a),.int .i64 e]:=by
    unfold Mem.read
    by_cases hu:x.sp.mem.used a
    · rw[if_pos hu,if_pos hu];exact⟨_,rfl⟩
    · rw[if_neg hu,if_neg hu];exact⟨_,rfl⟩
  obtain⟨e,hv⟩:=hv
  refine⟨_,e,hv,_,hc,_,rfl,_,p1,_,rfl,_,p2,_,rfl,_,p3,_,rfl,_,p4,_,hc,?_⟩
  have hw:=Mem.read_word T.ok.mem a
  refine HC.mono (tg_Visit_c T hw) ?_
  rintro _ H2 ⟨rfl,T2,f2⟩
  obtain⟨q1,q2,q3,q4⟩:=T2.s1
  have hc2:hat H2 ⟨c,0,none⟩=some (.pointer (some ⟨q.t,0,none⟩)):=f2.hat hcb hc
  refine⟨_,rfl,?_⟩
  simp only[RowAt,and_true,addr_add_mk,Nat.add_zero]
  refine⟨hc2,q1,q2,q3,q4,?_⟩
  have ok2:=T2.ok
  have ok3:=SpOK.wr ok2 a (Sp.visit_word T.ok (old:=t.old) (T:=t.tgt) hw)
  refine HC.mono (seg_Write_c T2.hp.cd.sp.mem ok2.mem (by omega)) ?_
  rintro _ H3 ⟨rfl,hm3,f3⟩
  refine⟨_,rfl,hR _ _ ⟨⟨?_,Sp.lookAt_even T.ok T.even _ _ _,by show(x.sp.lookAt t.old t.tgt a).cf<_;rw[Sp.lookAt_cf];exact T.cf,T.on⟩,f2.trans (f3.mono (λi hi _=>by simp at hi;simp[spB];omega))⟩⟩
  exact T2.toTc.withMem (m:=(x.sp.visit t.old t.tgt (x.sp.mem.read a)).1.mem.wr a (x.sp.visit t.old t.tgt (x.sp.mem.read a)).2) f3 (λi hi=>by simp at hi;omega) hm3 ok3

def looks(kind i:Int):Prop:=kind≠3/\(kind≠1\/i % 2=1)
instance (kind i:Int):Decidable (looks kind i):=by unfold looks;infer_instance
def Sp.look(s:Sp)(old:Nat->Bool)(T seg kind lo:Int):Nat->Sp
  | 0=>s
  | n+1=>if looks kind (lo+n)then(s.look old T seg kind lo n).lookAt old T (seg*64+(lo+n))else s.look old T seg kind lo n
theorem Sp.look_raw(s:Sp)(old:Nat->Bool)(T seg lo:Int): ∀n,s.look old T seg 3 lo n=s
  | 0=>rfl
  | n+1=>by unfold Sp.look;rw[if_neg (λh=>h.1 rfl)];exact Sp.look_raw s old T seg lo n
set_option maxRecDepth 100000 in
theorem tr_look_c{H:zV}{b:Blk}{x:Hp}{q:TB}{t:Tr}{seg kind lo hi:Int}(T:Tg H b x q t)(hs:0<=seg/\seg<1024)(hl:0<=lo/\lo<=64)(hh:hi<=64):
    trace_Trace_look.C (some ⟨q.t,0,none⟩) seg lo hi kind H (λ_ H'=>Tg H' b {x with sp:=x.sp.look t.old t.tgt seg kind lo (hi-lo).toNat} q t/\Fr (spB b) H H'):=by
  refine HC.via λR hR=>trace_Trace_look.link ?_
  unfold trace_Trace_look.pt zY
  intro c H1 hcb hH1
  have e1:Ext H H1:=Ext.push' hH1
  have g1:=push_get hcb hH1
  have T1:=T.grow e1
  have hc1:hat H1 ⟨c,0,none⟩=some (.pointer (some ⟨q.t,0,none⟩)):=by rw[hat_blk g1];rfl
  have hcn:c ∉ spB b:=λh=>by
    have:=T.lt (.inl (spB_all h));omega
  refine⟨λi H'=>(lo<=i/\i<=max lo hi)/\Tg H' b {x with sp:=x.sp.look t.old t.tgt seg kind lo (i-lo).toNat} q t/\Fr (spB b) H H'/\hat H' ⟨c,0,none⟩=some (.pointer (some ⟨q.t,0,none⟩)),λi _=>(hi-i).toNat,⟨⟨by omega,by omega⟩,by rw[Int.sub_self];exact T1,e1.fr,hc1⟩,?_⟩
  rintro i H2 ⟨hi',T2,f2,hc2⟩
  by_cases hend:i<hi/\kind≠3
  · rw[if_pos (by simp[hend.1,hend.2])]
    have hsn:(i+1-lo).toNat=(i-lo).toNat+1:=by omega
    have hli:lo+((i-lo).toNat:Int)=i:=by omega
    rw[tmod_pos (by omega:0<=i),w64 (n:=i+1) (by omega),w64 (n:=seg*64) (by omega),w64 (n:=seg*64+i) (by omega)]
    by_cases hk:kind≠1\/i % 2=1
    · rw[if_pos (by simpa using hk)]
      refine HC.mono (tr_look1_c T2 (by omega) hc2 hcn) ?_
      rintro _ H3 ⟨T3,f3⟩
      refine⟨⟨by omega,?_,f2.trans f3,f3.hat hcn hc2⟩,by show(hi-(i+1)).toNat< (hi-i).toNat;omega⟩
      have e:x.sp.look t.old t.tgt seg kind lo (i+1-lo).toNat=(x.sp.look t.old t.tgt seg kind lo (i-lo).toNat).lookAt t.old t.tgt (seg*64+i):=by
        rw[hsn];show(if _ then _ else _)=_;rw[hli,if_pos ⟨hend.2,hk⟩]
      rw[e];exact T3
    · rw[if_neg (by simpa using hk)]
      refine⟨⟨by omega,?_,f2,hc2⟩,by show(hi-(i+1)).toNat< (hi-i).toNat;omega⟩
      have e:x.sp.look t.old t.tgt seg kind lo (i+1-lo).toNat=x.sp.look t.old t.tgt seg kind lo (i-lo).toNat:=by
        rw[hsn];show(if _ then _ else _)=_;rw[hli,if_neg (λh=>hk h.2)]
      rw[e];exact T2
  · rw[if_neg (by simpa using hend)]
    have e:x.sp.look t.old t.tgt seg kind lo (hi-lo).toNat=x.sp.look t.old t.tgt seg kind lo (i-lo).toNat:=by
      by_cases h3:kind=3
      · rw[h3,Sp.look_raw,Sp.look_raw]
      · have: ¬i<hi:=λh=>hend ⟨h,h3⟩
        congr 1;omega
    rw[e]at hR
    exact hR _ _ ⟨T2,f2⟩

def Mem.segOr(m:Mem)(k:Int):Seg:=if m.has k then m.seg k.toNat else Seg.none
def Sp.lookCard(s:Sp)(old:Nat->Bool)(T:Int)(c:Int×Int):Sp:=
  s.look old T c.1 (s.mem.segOr c.1).kind (c.2*16) (min (s.mem.segOr c.1).n ((c.2+1)*16)-c.2*16).toNat
def Sp.lookCards(s:Sp)(old:Nat->Bool)(T:Int)(l:List (Int×Int)):Sp:=l.foldl (λs c=>s.lookCard old T c) s
theorem Sp.lookCards_snoc(s:Sp)(old:Nat->Bool)(T:Int)(l:List (Int×Int))(c:Int×Int):s.lookCards old T (l++[c])=(s.lookCards old T l).lookCard old T c:=by
  unfold Sp.lookCards;rw[List.foldl_append];rfl
theorem cardCells_len: ∀l:List (Int×Int),(cardCells l).length=2*l.length
  | []=>rfl
  | c::l=>by
    have:=cardCells_len l
    unfold cardCells at*
    rw[List.flatMap_cons,List.length_append,this];simp;omega
theorem cardCells_get: ∀(l:List (Int×Int)) {i:Nat} (h:i<l.length),(cardCells l)[2*i]?=some (.int .i64 l[i].1)/\(cardCells l)[2*i+1]?=some (.int .i64 l[i].2)
  | c::l,0,h=>⟨rfl,rfl⟩
  | c::l,i+1,h=>by
    have:=cardCells_get l (i:=i) (by simpa using h)
    unfold cardCells at*
    rw[List.flatMap_cons]
    exact⟨this.1,this.2⟩
theorem src_card{H:zV}{B:zW}{l:List (Int×Int)}(h:SrcAt H B (cardCells l)){i:Nat}(hi:i<l.length): ∃a,B=some a/\RowAt H (a.add (i*2)) 0 [.int .i64 l[i].1,.int .i64 l[i].2]:=by
  cases B with
  | none=>
    have e:cardCells l=[]:=h
    have:=cardCells_len l
    rw[e]at this;simp at this;omega
  | some a=>
    refine⟨a,rfl,?_⟩
    obtain⟨g1,g2⟩:=cardCells_get l hi
    have h1:=rowAt_hat (show RowAt H a 0 (cardCells l)from h) _ _ g1
    have h2:=rowAt_hat (show RowAt H a 0 (cardCells l)from h) _ _ g2
    refine⟨?_,?_,trivial⟩
    · rw[addr_add2];rw[show i*2+0=0+2*i by omega];exact h1
    · rw[addr_add2];rw[show i*2+(0+1)=0+(2*i+1)by omega];exact h2
def CardsOK(l:List (Int×Int)):Prop:= ∀c∈l,(0<=c.1/\c.1<1024)/\0<=c.2/\c.2<4
theorem pair_size{m:Mem}{w:Int}(h:m.isPair w):m.sizeOf w≠0:=by unfold Mem.sizeOf;rw[if_pos h];decide

theorem Mem.len_rng(m:Mem)(w:Int):0<=m.len w/\m.len w<=62:=by
  unfold Mem.len
  split
  · rename_i h;exact h.len_lt
  · omega
