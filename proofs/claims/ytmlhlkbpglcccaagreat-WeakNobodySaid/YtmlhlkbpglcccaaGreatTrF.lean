/-
  What was copied is looked at (package trace): look, Cards. Proves nothing of any one statement.
-/
import Derived.Test.YtmlhlkbpglcccaaGreatTrB
import Derived.Test.YtmlhlkbpglcccaaGreatWords
import Derived.Test.YtmlhlkbpglcccaaGreatFcardx
set_option linter.unusedVariables false
set_option linter.unusedSimpArgs false
namespace Go.Proofs.YtmlhlkbpglcccaaGreat
open Go

theorem Sp.moved_cf(m:Mem)(w:Int)(r:Sp×Int×Int):(Sp.moved m w r).cf=r.1.cf:=by
  unfold Sp.moved Sp.cf
  have h1:=aZ.sets (m.row (w / 8) (m.sizeOf w).toNat) r.1.mem r.2.1
  have h2:=aZ.set (r.1.mem.sets r.2.1 (m.row (w / 8) (m.sizeOf w).toNat)) (w / 8) (r.2.1*8+6)
  simp only[]
  rw[h2.count,h2.free,h1.count,h1.free]
theorem Sp.visit_cf(s:Sp)(old:Nat->Bool)(T w:Int):(s.visit old T w).1.cf=s.cf:=by
  unfold Sp.visit
  split
  · rfl
  split
  · rfl
  split
  · rfl
  split
  · show(Sp.moved _ _ _).cf=_
    rw[Sp.moved_cf,Sp.alloc_cf]
  · rfl
theorem Mem.size_kind{m:Mem}{w:Int}(h:m.sizeOf w≠0):(m.kindOf w=0\/m.kindOf w=1)/\m.sizeOf w=2\/(m.kindOf w=2\/m.kindOf w=3):=by
  unfold Mem.sizeOf Mem.kindOf at*
  by_cases hp:m.isPair w
  · rw[if_pos hp]
    rcases hp.1 with q | q
    · exact .inl ⟨.inl q.2.2.2.1,rfl⟩
    · exact .inl ⟨.inr q.2.2.2.1,rfl⟩
  · rw[if_neg hp]at h
    by_cases ho:m.isObj w
    · have:=ho.1.2.2.2.1
      right
      unfold rawK at this
      split at this<;>omega
    · rw[if_neg ho]at h;exact absurd rfl h
theorem Sp.visit_even{s:Sp}(ok:SpOK s)(he:s.mem.Even)(old:Nat->Bool)(T w:Int):(s.visit old T w).1.mem.Even:=by
  unfold Sp.visit
  split
  · exact he
  split
  · exact he
  split
  · exact he
  rename_i h0
  split
  · rename_i ha
    obtain⟨_,gr⟩:=Sp.alloc_ok ok ha
    have h1:=(gr.even he (λhk=>by rcases Mem.size_kind h0 with q | q<;>omega)).1
    exact(aZ.set _ _ _).even ((aZ.sets _ _ _).even h1)
  · exact he
theorem Sp.visit_word{s:Sp}(ok:SpOK s){old:Nat->Bool}{T w:Int}(hw:aH w):aH (s.visit old T w).2:=by
  unfold Sp.visit
  split
  · exact hw
  split
  · rename_i v hf
    unfold Mem.fwd at hf
    split at hf
    · rename_i hh
      have h1:=hh.2.1.2
      have h2:=((ok.mem.seg (w / 8 / 64).toNat).words (w / 8 % 64).toNat).1
      have h3:s.mem.get (w / 8)=(s.mem.seg (w / 8 / 64).toNat).words (w / 8 % 64).toNat:=rfl
      simp only[Option.some.injEq]at hf
      have h4:=hw.1
      rw[h3]at h1 hf
      generalize (s.mem.seg (w / 8 / 64).toNat).words (w / 8 % 64).toNat=g at h1 h2 hf
      rw[<-hf]
      exact⟨by omega,by omega⟩
    · cases hf
  split
  · exact hw
  split
  · rename_i ha
    obtain⟨_,gr⟩:=Sp.alloc_ok ok ha
    have hl:=ok.mem.lim
    obtain⟨a0,a1,a2⟩:=gr.addr
    have:=hw.1
    exact⟨by simp only[];omega,by simp only[];omega⟩
  · exact hw

structure Tg (H:zV) (b:Blk) (x:Hp) (q:TB) (t:Tr):Prop extends Tc H b x q t where
  even:x.sp.mem.Even
  cf:x.sp.cf<4611686018427387904
  on:t.over=false
theorem Tg.grow{H H':zV}{b:Blk}{x:Hp}{q:TB}{t:Tr}(h:Tg H b x q t)(e:Ext H H'):Tg H' b x q t:=⟨h.toTc.ext e,h.even,h.cf,h.on⟩
theorem Tg.stay{S:List Nat}{H H':zV}{b:Blk}{x:Hp}{q:TB}{t:Tr}(h:Tg H b x q t)(f:Fr S H H')(h1: ∀i,i∈S->i ∉ b.all)(h2: ∀i,i∈S->i ∉ q.all):Tg H' b x q t:=⟨h.toTc.keep f h1 h2,h.even,h.cf,h.on⟩
theorem Tg.lt{H:zV}{b:Blk}{x:Hp}{q:TB}{t:Tr}(h:Tg H b x q t){i:Nat}(hi:i∈b.all\/i∈q.all):i<H.size:=by
  rcases hi with hi | hi
  · exact h.hp.lt i hi
  · exact h.tr.lt i hi
theorem fJ{H:zV}{b:Blk}{x:Hp}{q:TB}{t:Tr}{w:Int}(T:Tg H b x q t)(hw:aH w):
    aU.C (some ⟨q.t,0,none⟩) w H (λv H'=>v=.int .u64 (x.sp.visit t.old t.tgt w).2/\Tg H' b {x with sp:=(x.sp.visit t.old t.tgt w).1} q t/\Fr (spB b) H H'):=
  HC.mono (l5 T.toTc T.even hw (Sp.cf_count T.ok T.cf) T.on) (λ_ _ h=>⟨h.1,⟨h.2.1,Sp.visit_even T.ok T.even _ _ _,by show(x.sp.visit t.old t.tgt w).1.cf<_;rw[Sp.visit_cf];exact T.cf,T.on⟩,h.2.2⟩)

def Mem.read(m:Mem)(a:Int):Int:=if m.used a then m.get a else 0
def Mem.wr(m:Mem)(a w:Int):Mem:=if m.used a then m.set a w else m
theorem Mem.read_word{m:Mem}(ok:bI m)(a:Int):aH (m.read a):=by
  unfold Mem.read
  split
  · exact(ok.seg _).words _
  · decide
theorem aZ.wr(m:Mem)(a w:Int):aZ m (m.wr a w):=by
  unfold Mem.wr
  split
  · exact aZ.set m a w
  · exact aZ.refl m
theorem SpOK.wr{s:Sp}(ok:SpOK s)(a:Int){w:Int}(hw:aH w):SpOK {s with mem:=s.mem.wr a w}:=
  ok.withMem (by unfold Mem.wr; split; · exact ok.mem.set a hw
                 · exact ok.mem) (λk h=>(aZ.wr _ _ _).has.2 h) (λk=>⟨((aZ.wr _ _ _).seg k).1,((aZ.wr _ _ _).seg k).2.1⟩)
def Sp.lookAt(s:Sp)(old:Nat->Bool)(T a:Int):Sp:=
  {(s.visit old T (s.mem.read a)).1 with mem:=(s.visit old T (s.mem.read a)).1.mem.wr a (s.visit old T (s.mem.read a)).2}
theorem Sp.lookAt_even{s:Sp}(ok:SpOK s)(he:s.mem.Even)(old:Nat->Bool)(T a:Int):(s.lookAt old T a).mem.Even:=
  (aZ.wr _ _ _).even (Sp.visit_even ok he old T _)
theorem Sp.lookAt_cf(s:Sp)(old:Nat->Bool)(T a:Int):(s.lookAt old T a).cf=s.cf:=by
  have h:=aZ.wr (s.visit old T (s.mem.read a)).1.mem a (s.visit old T (s.mem.read a)).2
  have:(s.lookAt old T a).cf=(s.visit old T (s.mem.read a)).1.cf:=by
    unfold Sp.lookAt Sp.cf;simp only[];rw[h.count,h.free]
  rw[this,Sp.visit_cf]
set_option maxRecDepth 100000 in
theorem l8{H:zV}{b:Blk}{x:Hp}{q:TB}{t:Tr}{a:Int}{c:Nat}(T:Tg H b x q t)(ha:I64 a)(hc:hat H ⟨c,0,none⟩=some (.pointer (some ⟨q.t,0,none⟩)))(hcb:c ∉ spB b):
    cw.C a (some ⟨c,0,none⟩) H (λ_ H'=>Tg H' b {x with sp:=x.sp.lookAt t.old t.tgt a} q t/\Fr (spB b) H H'):=by
  refine HC.via λR hR=>cw.link ?_
  unfold cw.pt
  obtain⟨p1,p2,p3,p4⟩:=T.s1
  refine⟨_,rfl,_,hc,_,rfl,_,p1,_,rfl,_,p2,_,rfl,_,p3,_,rfl,_,p4,?_⟩
  refine HC.mono (eX T.hp.cd.sp.mem T.ok.mem (by omega)) ?_
  rintro _ H1 ⟨rfl,rfl⟩
  have hv: ∃e:Int,(if x.sp.mem.used a then Value.tuple #[.int .u64 (x.sp.mem.get a),.int .i64 0]else .tuple #[.int .u64 0,.int .i64 18])=.tuple #[.int .u64 (x.sp.mem.read a),.int .i64 e]:=by
    unfold Mem.read
    by_cases hu:x.sp.mem.used a
    · rw[if_pos hu,if_pos hu];exact⟨_,rfl⟩
    · rw[if_neg hu,if_neg hu];exact⟨_,rfl⟩
  obtain⟨e,hv⟩:=hv
  refine⟨_,e,hv,_,hc,_,rfl,_,p1,_,rfl,_,p2,_,rfl,_,p3,_,rfl,_,p4,_,hc,?_⟩
  have hw:=Mem.read_word T.ok.mem a
  refine HC.mono (fJ T hw) ?_
  rintro _ H2 ⟨rfl,T2,f2⟩
  obtain⟨q1,q2,q3,q4⟩:=T2.s1
  have hc2:hat H2 ⟨c,0,none⟩=some (.pointer (some ⟨q.t,0,none⟩)):=f2.hat hcb hc
  refine⟨_,rfl,?_⟩
  simp only[aT,and_true,addr_add_mk,Nat.add_zero]
  refine⟨hc2,q1,q2,q3,q4,?_⟩
  have ok2:=T2.ok
  have ok3:=SpOK.wr ok2 a (Sp.visit_word T.ok (old:=t.old) (T:=t.tgt) hw)
  refine HC.mono (ey T2.hp.cd.sp.mem ok2.mem (by omega)) ?_
  rintro _ H3 ⟨rfl,hm3,f3⟩
  refine⟨_,rfl,hR _ _ ⟨⟨?_,Sp.lookAt_even T.ok T.even _ _ _,by show(x.sp.lookAt t.old t.tgt a).cf<_;rw[Sp.lookAt_cf];exact T.cf,T.on⟩,f2.trans (f3.mono (λi hi _=>by simp at hi;simp[spB];omega))⟩⟩
  exact T2.toTc.withMem (m:=(x.sp.visit t.old t.tgt (x.sp.mem.read a)).1.mem.wr a (x.sp.visit t.old t.tgt (x.sp.mem.read a)).2) f3 (λi hi=>by simp at hi;omega) hm3 ok3

def looks(kind i:Int):Prop:=kind≠3/\(kind≠1\/i % 2=1)
instance (kind i:Int):Decidable (looks kind i):=by unfold looks;infer_instance
def Sp.look(s:Sp)(old:Nat->Bool)(T seg kind lo:Int):Nat->Sp
  | 0=>s
  | n+1=>if looks kind (lo+n)then(s.look old T seg kind lo n).lookAt old T (seg*64+(lo+n))else s.look old T seg kind lo n
theorem Sp.look_raw(s:Sp)(old:Nat->Bool)(T seg lo:Int): ∀n,s.look old T seg 3 lo n=s
  | 0=>rfl
  | n+1=>by unfold Sp.look;rw[if_neg (λh=>h.1 rfl)];exact Sp.look_raw s old T seg lo n
set_option maxRecDepth 100000 in
theorem m4{H:zV}{b:Blk}{x:Hp}{q:TB}{t:Tr}{seg kind lo hi:Int}(T:Tg H b x q t)(hs:0<=seg/\seg<1024)(hl:0<=lo/\lo<=64)(hh:hi<=64):
    cT.C (some ⟨q.t,0,none⟩) seg lo hi kind H (λ_ H'=>Tg H' b {x with sp:=x.sp.look t.old t.tgt seg kind lo (hi-lo).toNat} q t/\Fr (spB b) H H'):=by
  refine HC.via λR hR=>cT.link ?_
  unfold cT.pt zY
  intro c H1 hcb hH1
  have e1:Ext H H1:=Ext.push' hH1
  have g1:=aL hcb hH1
  have T1:=T.grow e1
  have hc1:hat H1 ⟨c,0,none⟩=some (.pointer (some ⟨q.t,0,none⟩)):=by rw[aM g1];rfl
  have hcn:c ∉ spB b:=λh=>by
    have:=T.lt (.inl (fj h));omega
  refine⟨λi H'=>(lo<=i/\i<=max lo hi)/\Tg H' b {x with sp:=x.sp.look t.old t.tgt seg kind lo (i-lo).toNat} q t/\Fr (spB b) H H'/\hat H' ⟨c,0,none⟩=some (.pointer (some ⟨q.t,0,none⟩)),λi _=>(hi-i).toNat,⟨⟨by omega,by omega⟩,by rw[Int.sub_self];exact T1,e1.fr,hc1⟩,?_⟩
  rintro i H2 ⟨hi',T2,f2,hc2⟩
  by_cases hend:i<hi/\kind≠3
  · rw[if_pos (by simp[hend.1,hend.2])]
    have hsn:(i+1-lo).toNat=(i-lo).toNat+1:=by omega
    have hli:lo+((i-lo).toNat:Int)=i:=by omega
    rw[gh (by omega:0<=i),w64 (n:=i+1) (by omega),w64 (n:=seg*64) (by omega),w64 (n:=seg*64+i) (by omega)]
    by_cases hk:kind≠1\/i % 2=1
    · rw[if_pos (by simpa using hk)]
      refine HC.mono (l8 T2 (by omega) hc2 hcn) ?_
      rintro _ H3 ⟨T3,f3⟩
      refine⟨⟨by omega,?_,f2.trans f3,f3.hat hcn hc2⟩,by show(hi-(i+1)).toNat< (hi-i).toNat;omega⟩
      have e:x.sp.look t.old t.tgt seg kind lo (i+1-lo).toNat=(x.sp.look t.old t.tgt seg kind lo (i-lo).toNat).lookAt t.old t.tgt (seg*64+i):=by
        rw[hsn];show(if _ then _ else _)=_;rw[hli,if_pos ⟨hend.2,hk⟩]
      rw[e];exact T3
    · rw[if_neg (by simpa using hk)]
      refine⟨⟨by omega,?_,f2,hc2⟩,by show(hi-(i+1)).toNat< (hi-i).toNat;omega⟩
      have e:x.sp.look t.old t.tgt seg kind lo (i+1-lo).toNat=x.sp.look t.old t.tgt seg kind lo (i-lo).toNat:=by
        rw[hsn];show(if _ then _ else _)=_;rw[hli,if_neg (λh=>hk h.2)]
      rw[e];exact T2
  · rw[if_neg (by simpa using hend)]
    have e:x.sp.look t.old t.tgt seg kind lo (hi-lo).toNat=x.sp.look t.old t.tgt seg kind lo (i-lo).toNat:=by
      by_cases h3:kind=3
      · rw[h3,Sp.look_raw,Sp.look_raw]
      · have: ¬i<hi:=λh=>hend ⟨h,h3⟩
        congr 1;omega
    rw[e]at hR
    exact hR _ _ ⟨T2,f2⟩

def Mem.segOr(m:Mem)(k:Int):Seg:=if m.has k then m.seg k.toNat else Seg.none
theorem ie: ∀l:List (Int×Int),(cU l).length=2*l.length
  | []=>rfl
  | c::l=>by
    have:=ie l
    unfold cU at*
    rw[List.flatMap_cons,List.length_append,this];simp;omega
theorem ig: ∀(l:List (Int×Int)) {i:Nat} (h:i<l.length),(cU l)[2*i]?=some (.int .i64 l[i].1)/\(cU l)[2*i+1]?=some (.int .i64 l[i].2)
  | c::l,0,h=>⟨rfl,rfl⟩
  | c::l,i+1,h=>by
    have:=ig l (i:=i) (by simpa using h)
    unfold cU at*
    rw[List.flatMap_cons]
    exact⟨this.1,this.2⟩
theorem ln{H:zV}{B:zW}{l:List (Int×Int)}(h:dd H B (cU l)){i:Nat}(hi:i<l.length): ∃a,B=some a/\aT H (a.add (i*2)) 0 [.int .i64 l[i].1,.int .i64 l[i].2]:=by
  cases B with
  | none=>
    have e:cU l=[]:=h
    have:=ie l
    rw[e]at this;simp at this;omega
  | some a=>
    refine⟨a,rfl,?_⟩
    obtain⟨g1,g2⟩:=ig l hi
    have h1:=er (show aT H a 0 (cU l)from h) _ _ g1
    have h2:=er (show aT H a 0 (cU l)from h) _ _ g2
    refine⟨?_,?_,trivial⟩
    · rw[fI];rw[show i*2+0=0+2*i by omega];exact h1
    · rw[fI];rw[show i*2+(0+1)=0+(2*i+1)by omega];exact h2
def jr(l:List (Int×Int)):Prop:= ∀c∈l,(0<=c.1/\c.1<1024)/\0<=c.2/\c.2<4

theorem lq{m:Mem}(ok:bI m)(k:Int):mF (m.segOr k):=by
 unfold Mem.segOr
 split
 ·exact ok.seg _
 ·exact il
theorem eO{H:zV}{bm bs:Nat}{m:Mem}{k:Int}(h:cx H bm bs m):
  bE.C (some ⟨bm,0,none⟩) k H (λv H'=>v=.tuple #[(m.segOr k).head,.bool (decide (m.has k))]/\Ext H H'):=fY h
theorem fK{H H1:zV}{c:Nat}(sg:Seg)(hc:c=H.size)(hH1:H1=H.push (.cells #[.int .i64 0,.int .i64 0,.int .i64 0,.int .i64 0,.int .i64 0,.int .i64 0,.int .i64 0] 102)):
  aK H1 ⟨c,0,none⟩ 0 7/\ ∀H2,H2=aS H1 ⟨c,0,none⟩ [.int .i64 sg.gen,.int .i64 sg.kind,.int .i64 sg.n,.int .i64 (sg.cards 0),.int .i64 (sg.cards 1),.int .i64 (sg.cards 2),.int .i64 (sg.cards 3)] 0->Ext H H2/\
   hat H2 ⟨c,0,none⟩=some (.int .i64 sg.gen)/\hat H2 ⟨c,1,none⟩=some (.int .i64 sg.kind)/\hat H2 ⟨c,2,none⟩=some (.int .i64 sg.n)/\aT H2 ⟨c,0,none⟩ 0 [.int .i64 sg.gen,.int .i64 sg.kind,.int .i64 sg.n,.int .i64 (sg.cards 0),.int .i64 (sg.cards 1),.int .i64 (sg.cards 2),.int .i64 (sg.cards 3)]:=by
 obtain⟨hc1,hs⟩:=boxed (vs:=[.int .i64 sg.gen,.int .i64 sg.kind,.int .i64 sg.n,.int .i64 (sg.cards 0),.int .i64 (sg.cards 1),.int .i64 (sg.cards 2),.int .i64 (sg.cards 3)]) (H1:=H1) (aL hc hH1) rfl rfl
 refine⟨hc1,λH2 hH2=>?_⟩
 obtain⟨hr,hE⟩:=hs H2 hH2
 exact⟨hE H (Ext.push' hH1) (by omega),hr.1,hr.2.1,hr.2.2.1,hr⟩
theorem oV(a b:Int):(if a<b then a else b)=min b a:=by
 by_cases h:a<b
 ·rw[if_pos h];omega
 ·rw[if_neg h];omega

def seenAt(ks:List (Int×Value))(k:Int):Int:=match mget ks k with | some (.int .i64 n)=>n | _=>0
def ej(ks:List (Int×Value)):Prop:= ∀k v,mget ks k=some v-> ∃n:Int,v=.int .i64 n/\0<=n/\n<=64
theorem hM{ks:List (Int×Value)}(h:ej ks)(k:Int):(mget ks k).getD (.int .i64 0)=.int .i64 (seenAt ks k)/\0<=seenAt ks k/\seenAt ks k<=64:=by
 unfold seenAt
 cases hm:mget ks k with
 | none=>exact⟨rfl,by decide,by decide⟩
 | some v=>
  obtain⟨n,rfl,h1,h2⟩:=h k v hm
  exact⟨rfl,h1,h2⟩
theorem gl(ks:List (Int×Value))(k a:Int)(v:Value):mget (mput ks k v) a=if a=k then some v else mget ks a:=by
 induction ks with
 | nil=>
  simp only[mput,mget,List.find?_cons]
  by_cases h:a=k
  ·simp[h]
  ·simp[h]
 | cons p ks ih=>
  simp only[mput]
  by_cases h:k=p.1
  ·rw[if_pos h]
   simp only[mget,List.find?_cons]
   by_cases ha:a=k
   ·simp[ha]
   ·simp[ha,<-h]
  ·rw[if_neg h]
   simp only[mget,List.find?_cons]at ih⊢
   by_cases ha:a=p.1
   ·subst ha
    have: ¬p.1=k:=λe=>h e.symm
    simp[this]
   ·simp only[ha,decide_false,Bool.false_eq_true]
    exact ih
theorem jP(ks:List (Int×Value))(k a n:Int):seenAt (mput ks k (.int .i64 n)) a=if a=k then n else seenAt ks a:=by
 unfold seenAt
 rw[gl]
 by_cases h:a=k
 ·rw[if_pos h,if_pos h]
 ·rw[if_neg h,if_neg h]
theorem ej.put{ks:List (Int×Value)}(h:ej ks){k n:Int}(hn:0<=n/\n<=64):ej (mput ks k (.int .i64 n)):=by
 intro a v hv
 rw[gl]at hv
 by_cases ha:a=k
 ·rw[if_pos ha]at hv;cases hv;exact⟨n,rfl,hn⟩
 ·rw[if_neg ha]at hv;exact h a v hv
def mu(ks:List (Int×Value)):Nat:=((List.range 1024).map λk:Nat=>(64-seenAt ks k).toNat).sum
theorem sum_lt: ∀(l:List Nat) (f g:Nat->Nat) (k:Nat),k∈l->(∀i∈l,f i<=g i)->f k<g k->(l.map f).sum< (l.map g).sum
 | [],_,_,_,h,_,_=>by cases h
 | a::l,f,g,k,h,hle,hlt=>by
  simp only[List.map_cons,List.sum_cons]
  have ha:=hle a (by simp)
  have hs: ∀l':List Nat,(∀i∈l',f i<=g i)->(l'.map f).sum<=(l'.map g).sum:=by
   intro l' h'
   induction l' with
   | nil=>simp
   | cons b l' ih=>
    simp only[List.map_cons,List.sum_cons]
    have:=h' b (by simp)
    have:=ih (λi hi=>h' i (by simp[hi]))
    omega
  rcases List.mem_cons.1 h with rfl | h
  ·have:=hs l (λi hi=>hle i (by simp[hi]));omega
  ·have:=sum_lt l f g k h (λi hi=>hle i (by simp[hi])) hlt;omega
theorem oW{ks:List (Int×Value)}{k n:Int}(hk:0<=k/\k<1024)(h:seenAt ks k<n)(hn:n<=64):mu (mput ks k (.int .i64 n))<mu ks:=by
 unfold mu
 refine sum_lt _ _ _ k.toNat (by rw[List.mem_range];omega) (λi _=>?_) ?_
 ·rw[jP]
  by_cases e:(i:Int)=k
  ·rw[if_pos e,e];omega
  ·rw[if_neg e];exact Nat.le_refl _
 ·rw[jP,if_pos (by omega),show((k.toNat:Nat):Int)=k by omega];omega

inductive eF (old:Nat->Bool) (T:Int) (s0:Sp) (k0:List (Int×Value)):Sp->List (Int×Value)->Prop
 | refl:eF old T s0 k0 s0 k0
 | step {s:Sp} {ks:List (Int×Value)} (k:Int) (h:eF old T s0 k0 s ks) (hk:s.mem.has k) (hg:(s.mem.seg k.toNat).gen=T) (ho:old k.toNat=false) (hn:seenAt ks k< (s.mem.seg k.toNat).n):
   eF old T s0 k0 (s.look old T k (s.mem.seg k.toNat).kind (seenAt ks k) ((s.mem.seg k.toNat).n-seenAt ks k).toNat) (mput ks k (.int .i64 (s.mem.seg k.toNat).n))
def js(old:Nat->Bool)(T:Int)(s:Sp)(ks:List (Int×Value)):Prop:= ∀k:Nat,s.mem.has k->(s.mem.seg k).gen=T->old k=false->(s.mem.seg k).n<=seenAt ks k
theorem eF.trans{old:Nat->Bool}{T:Int}{a b c:Sp}{ka kb kc:List (Int×Value)}(h:eF old T a ka b kb)(k:eF old T b kb c kc):eF old T a ka c kc:=by
 induction k with
 | refl=>exact h
 | step k _ hk hg ho hn ih=>exact .step k ih hk hg ho hn
structure dS (m m':Mem):Prop where
 limit:m'.limit=m.limit
 seg: ∀k,(m.seg k).taken≠0->(m'.seg k).gen=(m.seg k).gen/\(m'.seg k).kind=(m.seg k).kind/\(m'.seg k).taken=(m.seg k).taken/\(m.seg k).n<=(m'.seg k).n
 cards: ∀k,(m.seg k).taken≠0->(m'.seg k).cards=(m.seg k).cards
theorem dS.refl(m:Mem):dS m m:=⟨rfl,λ_ _=>⟨rfl,rfl,rfl,Int.le_refl _⟩,λ_ _=>rfl⟩
theorem dS.trans{a b c:Mem}(h:dS a b)(k:dS b c):dS a c:=⟨k.limit.trans h.limit,λi hi=>by
 obtain⟨h1,h2,h3,h4⟩:=h.seg i hi
 obtain⟨k1,k2,k3,k4⟩:=k.seg i (by rw[h3];exact hi)
 exact⟨k1.trans h1,k2.trans h2,k3.trans h3,Int.le_trans h4 k4⟩,λi hi=>(k.cards i (by rw[(h.seg i hi).2.2.1];exact hi)).trans (h.cards i hi)⟩
theorem aZ.heads{m m':Mem}(h:aZ m m'):dS m m':=⟨h.limit,λk _=>⟨(h.seg k).1,(h.seg k).2.1,(h.seg k).2.2.2.1,by rw[(h.seg k).2.2.1];exact Int.le_refl _⟩,λk _=>(h.seg k).2.2.2.2⟩
theorem Grown.heads{m m':Mem}{a g k n:Int}(gr:Grown m m' a n g k)(hn:0<=n):dS m m':=⟨gr.limit,λi hi=>by
 by_cases hj:i=(a / 64).toNat
 ·subst hj
  obtain⟨o1,o2,o3,o4,o5,o6⟩:=gr.old hi
  obtain⟨n1,n2,n3,n4⟩:=gr.new
  exact⟨n2.trans o1.symm,n3.trans o2.symm,o6,by rw[n4,o3];omega⟩
 ·rw[gr.others i hj];exact⟨rfl,rfl,rfl,Int.le_refl _⟩,λi hi=>by
 by_cases hj:i=(a / 64).toNat
 ·subst hj;exact(gr.old hi).2.2.2.2.1
 ·rw[gr.others i hj]⟩
theorem dS.has{m m':Mem}(h:dS m m'){k:Int}(hk:m.has k):m'.has k:=⟨hk.1,by rw[h.limit];exact hk.2.1,by rw[(h.seg _ hk.2.2).2.2.1];exact hk.2.2⟩
theorem Sp.visit_heads{s:Sp}(ok:SpOK s)(he:s.mem.Even){old:Nat->Bool}{T w:Int}(hw:aH w):dS s.mem (s.visit old T w).1.mem:=by
 unfold Sp.visit
 split
 ·exact dS.refl _
 split
 ·exact dS.refl _
 split
 ·exact dS.refl _
 rename_i h0
 split
 ·rename_i ha
  obtain⟨_,gr⟩:=Sp.alloc_ok ok ha
  have hs:=Mem.size_used ok.mem he hw h0
  exact((gr.heads (by omega)).trans (aZ.sets _ _ _).heads).trans (aZ.set _ _ _).heads
 ·exact dS.refl _
theorem Sp.lookAt_heads{s:Sp}(ok:SpOK s)(he:s.mem.Even){old:Nat->Bool}{T a:Int}:dS s.mem (s.lookAt old T a).mem:=
 (Sp.visit_heads ok he (Mem.read_word ok.mem a)).trans (aZ.wr _ _ _).heads
theorem Sp.visit_ok{s:Sp}(ok:SpOK s){old:Nat->Bool}{T w:Int}(hw:aH w)(ht:aQ old w->True):SpOK (s.visit old T w).1:=by
 unfold Sp.visit
 split
 ·exact ok
 split
 ·exact ok
 split
 ·exact ok
 split
 ·rename_i ha
  obtain⟨ok2,gr⟩:=Sp.alloc_ok ok ha
  have hlim:=ok.mem.lim
  obtain⟨a0,a1,a2⟩:=gr.addr
  have ok3:=ok2.sets (s.alloc T (s.mem.kindOf w) (s.mem.sizeOf w)).2.1 (ws:=s.mem.row (w / 8) (s.mem.sizeOf w).toNat) (λv hv=>by
   unfold Mem.row at hv
   obtain⟨i,_,rfl⟩:=List.mem_map.1 hv
   exact(ok.mem.seg _).words _)
  exact ok3.withMem (ok3.mem.set (w / 8) ⟨by omega,by omega⟩) (λk h=>Mem.set_has.2 h) (λk=>⟨((aZ.set _ _ _).seg k).1,((aZ.set _ _ _).seg k).2.1⟩)
 ·exact ok
theorem Sp.lookAt_ok{s:Sp}(ok:SpOK s){old:Nat->Bool}{T a:Int}:SpOK (s.lookAt old T a):=
 SpOK.wr (Sp.visit_ok ok (Mem.read_word ok.mem a) (λ_=>trivial)) a (Sp.visit_word ok (Mem.read_word ok.mem a))
theorem Sp.look_ok{s:Sp}(ok:SpOK s)(he:s.mem.Even){old:Nat->Bool}{T seg kind lo:Int}: ∀n,SpOK (s.look old T seg kind lo n)/\(s.look old T seg kind lo n).mem.Even/\dS s.mem (s.look old T seg kind lo n).mem
 | 0=>⟨ok,he,dS.refl _⟩
 | n+1=>by
  obtain⟨h1,h2,h3⟩:=Sp.look_ok ok he (old:=old) (T:=T) (seg:=seg) (kind:=kind) (lo:=lo) n
  unfold Sp.look
  split
  ·exact⟨Sp.lookAt_ok h1,Sp.lookAt_even h1 h2 _ _ _,h3.trans (Sp.lookAt_heads h1 h2)⟩
  ·exact⟨h1,h2,h3⟩
theorem eF.heads{old:Nat->Bool}{T:Int}{a b:Sp}{ka kb:List (Int×Value)}(h:eF old T a ka b kb)(ok:SpOK a)(he:a.mem.Even):SpOK b/\b.mem.Even/\dS a.mem b.mem:=by
 induction h with
 | refl=>exact⟨ok,he,dS.refl _⟩
 | step k _ _ _ _ _ ih=>
  obtain⟨h1,h2,h3⟩:=ih
  obtain⟨k1,k2,k3⟩:=Sp.look_ok h1 h2 (old:=old) (T:=T) (seg:=k) (kind:=(_:Int)) (lo:=_) _
  exact⟨k1,k2,h3.trans k3⟩

theorem row1{H:zV}{c o:Nat}{v:Value}(h:hat H ⟨c,o,none⟩=some v):aT H ⟨c,o,none⟩ 0 [v]:=⟨by rw[addr_add_mk];exact h,trivial⟩
theorem TrAt.putSeen{H:zV}{b:Blk}{q:TB}{t:Tr}{es:Array MapEntry}{cl:Nat}{ks:List (Int×Value)}(h:TrAt H b q t)(he:Ents (cV .i64) es.toList ks):TrAt (bL H q.s (.map es cl)) b q {t with seen:=ks}:=by
 have f:Fr [q.s] H (bL H q.s (.map es cl)):=Fr.set
 have l1:=h.lt q.s (by simp[TB.all])
 obtain⟨cs,h1,hr⟩:=h.tr
 obtain⟨es1,cl1,h2,hr2⟩:=h.frm
 have ne:=h.ne
 refine⟨⟨cs,f.get (by simp;omega) h1,hr⟩,⟨es1,cl1,f.get (by simp;omega) h2,hr2⟩,⟨es,cl,bA l1,he⟩,?_,λa ha=>Nat.lt_of_lt_of_le (h.cB a ha) f.size,h.clen,h.ne⟩
 have hc:=h.cards
 cases hb:q.cB with
 | none=>rw[hb]at hc;exact hc
 | some a=>
  rw[hb]at hc
  refine f.rowAt ?_ hc
  have:=ne.2.2.2 a.block (by rw[hb];simp)
  simp;omega
theorem Tg.putSeen{H H':zV}{b:Blk}{x:Hp}{q:TB}{t:Tr}{es:Array MapEntry}{cl:Nat}{ks:List (Int×Value)}(h:Tg H b x q t)(he:Ents (cV .i64) es.toList ks)(hH:H'=bL H q.s (.map es cl)):Tg H' b x q {t with seen:=ks}:=by
 subst hH
 have f:Fr [q.s] H (bL H q.s (.map es cl)):=Fr.set
 have hn:q.s ∉ b.all:=h.apart q.s (by simp[TB.all])
 exact⟨⟨h.hp.keep f (λi hi=>by simp at hi;rw[hi];exact hn),h.ok,h.tr.putSeen he,h.apart⟩,h.even,h.cf,h.on⟩

structure RdT (H A:zV) (b:Blk) (x:Hp) (q:TB) (t:Tr) (B:zW) (c:Nat) (l:List Nat) (i:Nat) (sm:Bool) (s:Sp) (ks:List (Int×Value)):Prop where
 dr:eF t.old t.tgt x.sp t.seen s ks
 tg:Tg A b {x with sp:=s} q {t with seen:=ks}
 ok:ej ks
 fr:Fr (q.s::spB b) H A
 own:Own A 3 1 B l.length c (ivs (l.map λi:Nat=>(i:Int)))
 no:sm=false->s=x.sp/\ks=t.seen/\ ∀j,j<i-> ∀h:j<l.length,t.old l[j]=true\/(x.sp.mem.seg l[j]).n<=seenAt t.seen l[j]
 yes:sm=true->mu ks<mu t.seen

set_option maxRecDepth 100000 in
theorem l9{H:zV}{b:Blk}{x:Hp}{q:TB}{t:Tr}(T:Tg H b x q t)(hso:ej t.seen)(htg:0<=t.tgt):
  cI.C (some ⟨q.t,0,none⟩) H (λv H'=> ∃(sm:Bool) (s:Sp) (ks:List (Int×Value)),v=.bool sm/\eF t.old t.tgt x.sp t.seen s ks/\Tg H' b {x with sp:=s} q {t with seen:=ks}/\ej ks/\Fr (q.s::spB b) H H'/\(sm=false->js t.old t.tgt s ks)/\(sm=true->mu ks<mu t.seen)):=by
 refine HC.via λR hR=>cI.link ?_
 unfold cI.pt zY
 obtain⟨p1,p2,p3,p4⟩:=T.s1
 refine⟨_,rfl,_,p1,_,rfl,_,p2,_,rfl,_,p3,_,rfl,_,p4,_,by rw[addr_add_mk];exact T.tr.tgtAt,?_⟩
 intro c1 H1 hc1 hH1
 have e1:Ext H H1:=Ext.push' hH1
 have g1:=aL hc1 hH1
 have s1:H1.size=H.size+1:=by rw[hH1];simp
 have T1:=T.grow e1
 refine⟨row1 (e1.hat p1),row1 (e1.hat p2),row1 (e1.hat p3),row1 (e1.hat p4),?_⟩
 refine HC.mono (fR (gs:=[t.tgt]) T1.hp.cd.sp.mem T1.ok.mem (show dd H1 (some ⟨c1,0,none⟩) (ivs [t.tgt])from row1 (by rw[aM g1];rfl)) rfl (by decide)) ?_
 rintro _ H2 ⟨B,c,l,rfl,hl,how,hfr,e2⟩
 refine⟨_,_,_,rfl,?_⟩
 have e12:=e1.trans e2
 have T2:=T.grow e12
 have hlen:=hl.len
 have hlim:=T.ok.mem.lim
 have hBn: ∀j∈blks B,j ∉ q.s::spB b:=λj hj h=>by
  have h1:=hfr j hj
  rcases List.mem_cons.1 h with rfl | h
  ·have:=T.lt (.inr (show q.s∈q.all by simp[TB.all]));omega
  ·have:=T.lt (.inl (fj h));omega
 refine⟨λsm i A=>(0<=i/\i<=l.length)/\ ∃s ks,RdT H A b x q t B c l i.toNat sm s ks,λ_ i _=>(l.length-i).toNat,
  ⟨⟨by omega,by omega⟩,x.sp,t.seen,⟨.refl,T2,hso,e12.fr,how,λ_=>⟨rfl,rfl,λj hj=>by simp at hj⟩,λh=>by cases h⟩⟩,?_⟩
 rintro sm i H3 ⟨hi,s,ks,rd⟩
 by_cases hlt:i< (l.length:Int)
 case neg=>
  rw[if_neg hlt]
  refine hR _ _ ⟨sm,s,ks,rfl,rd.dr,rd.tg,rd.ok,rd.fr,λhsm=>?_,rd.yes⟩
  obtain⟨rfl,rfl,hall⟩:=rd.no hsm
  intro k hk hg ho
  have hm:k∈l:=by
   refine hl.perm.mem_iff.2 ?_
   unfold Mem.takenTo
   rw[List.mem_filter,List.mem_range]
   have hpos:0< (x.sp.mem.seg k).taken:=by
    have h1:=(T.ok.mem.seg k).taken
    have h2:=hk.2.2
    rw[show((k:Nat):Int).toNat=k by omega]at h2
    omega
   refine⟨by have:=hk.2.1;omega,?_⟩
   have h2:(x.sp.mem.seg k).gen∈[t.tgt]:=by rw[hg];simp
   rw[zX hpos,zX h2];simp
  obtain⟨j,hj,rfl⟩:=List.getElem_of_mem hm
  rcases hall j (by omega) hj with h | h
  ·rw[h]at ho;cases ho
  ·exact h
 rw[if_pos hlt]
 have hil:i.toNat<l.length:=by omega
 obtain⟨a,ha,hat3⟩:=jO rd.own hil
 obtain⟨khas,klim,kpos,kgen⟩:=hl.has (List.getElem_mem hil)
 generalize hkk:l[i.toNat]=k at*
 have kgen':(x.sp.mem.seg k).gen=t.tgt:=by
  rcases kgen with h | h
  ·cases h
  ·simpa using h
 refine⟨a,ha,⟨hi.1,hlt⟩,(k:Int),hat3,⟨by omega,by omega⟩,(if t.old k then 1 else 0),?_,?_⟩
 ·rw[show((k:Nat):Int).toNat=k by omega];rw[Nat.mul_one,addr_add_mk,addr_add_mk,Nat.zero_add];exact rd.tg.tr.oldAt (k:=k) (by omega)
 have hw1:IntKind.wrap .i64 (i+1)=i+1:=w64 (by omega)
 have hs1:(i+1).toNat=i.toNat+1:=by omega
 have hdec:((l.length:Int)-(i+1)).toNat< ((l.length:Int)-i).toNat:=by omega
 by_cases ho:t.old k=true
 ·rw[if_pos (by rw[if_pos ho])]
  rw[hw1]
  refine⟨⟨⟨by omega,by omega⟩,s,ks,rd.dr,rd.tg,rd.ok,rd.fr,rd.own,λhsm=>?_,rd.yes⟩,hdec⟩
  obtain⟨h1,h2,h3⟩:=rd.no hsm
  refine⟨h1,h2,λj hj h=>?_⟩
  by_cases hji:j=i.toNat
  ·subst hji;left;rw[hkk];exact ho
  ·exact h3 j (by omega) h
 rw[if_neg (by rw[if_neg ho];decide)]
 have ho':t.old k=false:=by simpa using ho
 obtain⟨p1,p2,p3,p4⟩:=rd.tg.s1
 refine⟨_,p1,_,rfl,_,p2,_,rfl,_,p3,_,rfl,_,p4,?_⟩
 refine HC.mono (eO rd.tg.hp.cd.sp.mem) ?_
 rintro _ H4 ⟨rfl,e4⟩
 refine⟨_,_,_,_,_,_,_,_,rfl,λc5 H5 hc5 hH5=>?_⟩
 obtain⟨hcp,hs⟩:=fK (s.mem.segOr k) hc5 hH5
 refine⟨hcp,λH6 hH6=>?_⟩
 obtain⟨e6,_,_,_,hr6⟩:=hs H6 hH6
 have e36:=e4.trans e6
 have c5n:H3.size<=c5:=by have:=e4.size;omega
 have hB3: ∀j∈blks B,j<H3.size:=rd.own.lt
 have hbq: ∀j,j∈b.all\/j∈q.all->j<H.size:=λj hj=>T.lt hj
 have hH3:H.size<=H3.size:=rd.fr.size
 refine⟨λsm' o A=> ∃(c':Nat) (s':Sp) (ks':List (Int×Value)),o=some ⟨c',0,none⟩/\H3.size<=c'/\aT A ⟨c',0,none⟩ 0 [.int .i64 (s'.mem.segOr k).gen,.int .i64 (s'.mem.segOr k).kind,.int .i64 (s'.mem.segOr k).n,.int .i64 ((s'.mem.segOr k).cards 0),.int .i64 ((s'.mem.segOr k).cards 1),.int .i64 ((s'.mem.segOr k).cards 2),.int .i64 ((s'.mem.segOr k).cards 3)]/\RdT H A b x q t B c l i.toNat sm' s' ks'/\H3.size<=A.size,
  λ_ _ A=>mu (match A[q.s]? with | some (.map es _)=>es.toList.map (λe=>((match e.key with | .int _ n=>n | _=>0),e.val)) | _=> []),?_,?_⟩
 ·exact⟨c5,s,ks,rfl,c5n,hr6,⟨rd.dr,rd.tg.grow e36,rd.ok,rd.fr.trans e36.fr,rd.own.ext e36,rd.no,rd.yes⟩,e36.size⟩
 rintro sm2 o H7 ⟨c',s',ks',rfl,hc',hr7,rd7,hsz⟩
 have hmap: ∀{A:zV} {s'':Sp} {ks'':List (Int×Value)},Tg A b {x with sp:=s''} q {t with seen:=ks''}->(match A[q.s]? with | some (.map es _)=>es.toList.map (λe=>((match e.key with | .int _ n=>n | _=>0),e.val)) | _=> [])=ks'':=by
  intro A s'' ks'' tg
  obtain⟨es,cl,h1,h2⟩:=tg.tr.seen
  rw[h1]
  show es.toList.map _=ks''
  have h3:=congrArg (List.map (λp:Value×Value=>((match p.1 with | .int _ n=>n | _=>0),p.2))) h2
  simp only[List.map_map]at h3
  refine Eq.trans ?_ (h3.trans ?_)
  ·rfl
  ·show List.map _ ks''=ks''
   conv=>rhs;rw[<-List.map_id ks'']
   rfl
 obtain⟨es,cl,hes,hen⟩:=rd7.tg.tr.seen
 obtain⟨hget,hs0,hs64⟩:=hM rd7.ok (k:Int)
 obtain⟨ok7,ev7,hd7⟩:=rd7.dr.heads T.ok T.even
 have hhas7:s'.mem.has (k:Int):=hd7.has khas
 have hsg7:s'.mem.segOr k=s'.mem.seg k:=by unfold Mem.segOr;rw[if_pos hhas7,show((k:Nat):Int).toNat=k by omega]
 have hne0:(x.sp.mem.seg k).taken≠0:=by omega
 have hgen7:(s'.mem.seg k).gen=t.tgt:=((hd7.seg k hne0).1).trans kgen'
 have hn7:=(ok7.mem.seg k).n
 have hN:hat H7 ⟨c',2,none⟩=some (.int .i64 (s'.mem.seg k).n):=by rw[<-hsg7];exact hr7.2.2.1
 refine⟨_,rd7.tg.tr.sAt,_,rfl,es,cl,_,hes,hen,_,hget,_,rfl,_,hN,?_⟩
 by_cases hgo:seenAt ks' k< (s'.mem.seg k).n
 case neg=>
  rw[if_neg hgo,hw1]
  refine⟨⟨⟨by omega,by omega⟩,s',ks',rd7.dr,rd7.tg,rd7.ok,rd7.fr,rd7.own,λhsm=>?_,rd7.yes⟩,hdec⟩
  obtain⟨rfl,rfl,h3⟩:=rd7.no hsm
  refine⟨rfl,rfl,λj hj h=>?_⟩
  by_cases hji:j=i.toNat
  ·subst hji;right;rw[hkk];omega
  ·exact h3 j (by omega) h
 rw[if_pos hgo]
 refine⟨_,rd7.tg.tr.sAt,_,rfl,es,cl,_,hes,hen,_,hget,_,rd7.tg.tr.sAt,_,hN,_,rfl,es,cl,_,hes,hen,?_⟩
 intro es4 cl4 H8 hH8 hen8
 have T8:=rd7.tg.putSeen hen8 hH8
 have f8:Fr [q.s] H7 H8:=by rw[hH8];exact Fr.set
 have c'q:c' ∉ q.s::spB b:=λh=>by
  rcases List.mem_cons.1 h with h | h
  ·have:=hbq q.s (.inr (by simp[TB.all]));omega
  ·have:=hbq c' (.inl (fj h));omega
 have c'q1:c' ∉ [q.s]:=λh=>c'q (by simp at h;simp[h])
 have c'q2:c' ∉ spB b:=λh=>c'q (List.mem_cons_of_mem _ h)
 have hr8:=f8.rowAt (a:=⟨c',0,none⟩) c'q1 hr7
 have hr8b:=hr8
 simp only[aT,and_true,addr_add_mk,Nat.zero_add]at hr8b
 refine⟨_,hr8b.2.2.1,_,hr8b.2.1,?_⟩
 rw[hsg7]
 refine HC.mono (m4 T8 ⟨by omega,by omega⟩ ⟨hs0,hs64⟩ hn7.2) ?_
 rintro _ H9 ⟨T9,f9⟩
 have hr9:=f9.rowAt (a:=⟨c',0,none⟩) c'q2 hr8
 refine⟨_,_,_,_,_,_,_,hr9,?_⟩
 intro c10 H10 hc10 hH10
 obtain⟨hcpA,hsA⟩:=boxed (vs:=[.int .i64 (s'.mem.segOr k).gen,.int .i64 (s'.mem.segOr k).kind,.int .i64 (s'.mem.segOr k).n,.int .i64 ((s'.mem.segOr k).cards 0),.int .i64 ((s'.mem.segOr k).cards 1),.int .i64 ((s'.mem.segOr k).cards 2),.int .i64 ((s'.mem.segOr k).cards 3)]) (H1:=H10) (aL hc10 hH10) rfl rfl
 refine⟨hcpA,λH11 hH11=>?_⟩
 have h10get:=aL hc10 hH10
 obtain⟨hr11,hEA⟩:=hsA H11 hH11
 have e11:Ext H9 H11:=hEA H9 (Ext.push' hH10) (by omega)
 have T11:=T9.grow e11
 obtain⟨p1,p2,p3,p4⟩:=T11.s1
 refine⟨_,p1,_,rfl,_,p2,_,rfl,_,p3,_,rfl,_,p4,?_⟩
 refine HC.mono (eO T11.hp.cd.sp.mem) ?_
 rintro _ H12 ⟨rfl,e12'⟩
 have hb11: ∃cs:Array Value,H11[c10]?=some (.cells cs 102 (0,0))/\cs.size=7:=by
  rw[cP _ H10 _ 0 0 h10get]at hH11
  rw[hH11]
  exact⟨_,bA (bH h10get),by rw[splice_size];rfl⟩
 obtain⟨cs,hcs,hcsn⟩:=hb11
 generalize hs2:s'.look t.old t.tgt k (s'.mem.seg k).kind (seenAt ks' k) ((s'.mem.seg k).n-seenAt ks' k).toNat=s2 at*
 obtain⟨hcpB,hsB⟩:=boxed (vs:=[.int .i64 (s2.mem.segOr k).gen,.int .i64 (s2.mem.segOr k).kind,.int .i64 (s2.mem.segOr k).n,.int .i64 ((s2.mem.segOr k).cards 0),.int .i64 ((s2.mem.segOr k).cards 1),.int .i64 ((s2.mem.segOr k).cards 2),.int .i64 ((s2.mem.segOr k).cards 3)]) (H1:=H12) (e12'.get hcs) hcsn rfl
 refine⟨_,_,_,_,_,_,_,_,rfl,hcpB,λH13 hH13=>?_⟩
 obtain⟨hr13,hEB⟩:=hsB H13 hH13
 have e13:Ext H9 H13:=hEB H9 (e11.trans e12') (by omega)
 have T13:=T9.grow e13
 have hmu:=oW (ks:=ks') (k:=k) ⟨by omega,by omega⟩ hgo hn7.2
 have f78:Fr (q.s::spB b) H7 H9:=(f8.mono (λj hj _=>by simp at hj;simp[hj])).trans (f9.mono (λj hj _=>List.mem_cons_of_mem _ hj))
 have dr:=eF.step (k:Int) rd7.dr hhas7 (by rw[show((k:Nat):Int).toNat=k by omega];exact hgen7) (by rw[show((k:Nat):Int).toNat=k by omega];exact ho') (by rw[show((k:Nat):Int).toNat=k by omega];exact hgo)
 rw[show((k:Nat):Int).toNat=k by omega,hs2]at dr
 refine⟨⟨c10,s2,_,rfl,?_,hr13,⟨dr,T13,rd7.ok.put hn7,rd7.fr.trans (f78.trans e13.fr),?_,(λh=>by cases h),λ_=>?_⟩,?_⟩,?_⟩
 ·have:=f78.size;omega
 ·exact(rd7.own.keep f78 hBn).ext e13
 ·by_cases hsm:sm2=true
  ·exact Nat.lt_trans hmu (rd7.yes hsm)
  ·have:=(rd7.no (by simpa using hsm)).2.1
   rw[<-this];exact hmu
 ·have:=f78.size;have:=e13.size;omega
 ·show mu _<mu _
  rw[hmap T13,hmap rd7.tg];exact hmu

set_option maxRecDepth 100000 in
theorem jQ{H:zV}{b:Blk}{x:Hp}{q:TB}{t:Tr}(T:Tg H b x q t)(hso:ej t.seen)(htg:0<=t.tgt):
  bW.C (some ⟨q.t,0,none⟩) H (λ_ H'=> ∃(s:Sp) (ks:List (Int×Value)),eF t.old t.tgt x.sp t.seen s ks/\js t.old t.tgt s ks/\Tg H' b {x with sp:=s} q {t with seen:=ks}/\ej ks/\Fr (q.s::spB b) H H'):=by
 refine HC.via λR hR=>bW.link ?_
 unfold bW.pt
 have hmap: ∀{A:zV} {s'':Sp} {ks'':List (Int×Value)},Tg A b {x with sp:=s''} q {t with seen:=ks''}->(match A[q.s]? with | some (.map es _)=>es.toList.map (λe=>((match e.key with | .int _ n=>n | _=>0),e.val)) | _=> [])=ks'':=by
  intro A s'' ks'' tg
  obtain⟨es,cl,h1,h2⟩:=tg.tr.seen
  rw[h1]
  show es.toList.map _=ks''
  have h3:=congrArg (List.map (λp:Value×Value=>((match p.1 with | .int _ n=>n | _=>0),p.2))) h2
  simp only[List.map_map]at h3
  refine Eq.trans ?_ (h3.trans ?_)
  ·rfl
  ·show List.map _ ks''=ks''
   conv=>rhs;rw[<-List.map_id ks'']
   rfl
 refine⟨λA=> ∃s ks,eF t.old t.tgt x.sp t.seen s ks/\Tg A b {x with sp:=s} q {t with seen:=ks}/\ej ks/\Fr (q.s::spB b) H A,
  λA=>mu (match A[q.s]? with | some (.map es _)=>es.toList.map (λe=>((match e.key with | .int _ n=>n | _=>0),e.val)) | _=> []),⟨_,_,.refl,T,hso,Fr.refl _ _⟩,?_⟩
 rintro H1 ⟨s,ks,dr,T1,so1,f1⟩
 refine HC.mono (fZ T1.toTc) ?_
 rintro _ H2 ⟨rfl,rfl⟩
 refine⟨_,rfl,?_⟩
 rw[if_neg (show ¬t.over=true by rw[T.on];decide)]
 refine HC.mono (l9 T1 so1 htg) ?_
 rintro _ H3 ⟨sm,s3,ks3,rfl,dr3,T3,so3,f3,hno,hyes⟩
 refine⟨_,rfl,?_⟩
 by_cases hsm:sm=true
 ·rw[if_pos hsm]
  refine⟨⟨s3,ks3,dr.trans dr3,T3,so3,f1.trans f3⟩,?_⟩
  show mu _<mu _
  rw[hmap T3,hmap T1];exact hyes hsm
 ·rw[if_neg hsm]
  exact hR _ _ ⟨s3,ks3,dr.trans dr3,hno (by simpa using hsm),T3,so3,f1.trans f3⟩

theorem ma{H:zV}{bm bs:Nat}{m:Mem}(h:cx H bm bs m):dY.C (some ⟨bm,0,none⟩) H (λv H'=>v=.int .i64 m.free/\H'=H):=by
 refine HC.via λR hR=>dY.link ?_
 unfold dY.pt
 rw[onPtr_some]
 exact⟨_,by rw[addr_add_mk];exact h.freeAt,hR _ _ ⟨rfl,rfl⟩⟩
def Sp.zap(s:Sp)(P:Nat->Prop) [DecidablePred P]:Sp:={s with cur:=λi j=>if P i then 0 else s.cur i j}
theorem SpAt.alike{H:zV}{b:Blk}{s s':Sp}(h:SpAt H b s)(hm:s'.mem=s.mem)(hc: ∀g k,g<5->k<4->s'.cur g k=s.cur g k):SpAt H b s':=by
 obtain⟨cs,h1,h2,h3,h4⟩:=h.sp
 exact⟨by rw[hm];exact h.mem,h.ne,cs,h1,h2,h3,λg k hg hk=>by rw[hc g k hg hk];exact h4 g k hg hk⟩
theorem SpAt.put4{H:zV}{b:Blk}{s:Sp}(h:SpAt H b s){g:Nat}(hg:g<5):
  aK H ⟨b.sp,1+g*4,none⟩ 0 4/\SpAt (aS H ⟨b.sp,1+g*4,none⟩ [.int .i64 0,.int .i64 0,.int .i64 0,.int .i64 0] 0) b (s.zap (· =g))/\Fr [b.sp] H (aS H ⟨b.sp,1+g*4,none⟩ [.int .i64 0,.int .i64 0,.int .i64 0,.int .i64 0] 0):=by
 obtain⟨cs,hb,hs,h0,hc⟩:=h.sp
 refine⟨bT hb _ _ _ (by omega),?_⟩
 rw[cP _ H cs _ 0 hb]
 refine⟨⟨h.mem.keep (S:=[b.sp]) Fr.set (by have:=h.ne;simp;omega) (by have:=h.ne;simp;omega),h.ne,_,bA (bH hb),by rw[splice_size];exact hs,?_,λi j hi hj=>?_⟩,Fr.set⟩
 ·rw[cL _ _ _ _ (by omega)];exact h0
 ·simp only[Sp.zap]
  by_cases e:i=g
  ·rw[if_pos e,e]
   have:=di cs [.int .i64 0,.int .i64 0,.int .i64 0,.int .i64 0] (1+g*4+0) j (by simp;omega) (by simp;omega)
   rw[show 1+g*4+j=1+g*4+0+j by omega,this]
   rcases(show j=0\/j=1\/j=2\/j=3 by omega)with rfl | rfl | rfl | rfl<;>rfl
  ·rw[if_neg e,<-hc i j hi hj]
   rcases Nat.lt_or_ge i g with hl | hl
   ·exact cL _ _ _ _ (by omega)
   ·exact ef _ _ _ _ (by simp;omega)
def Sp.fresh(s:Sp)(gs:List Int):Sp:=s.zap (λi=>gs=[]\/(i:Int)∈gs)
theorem Sp.zap_ok{s:Sp}(ok:SpOK s)(P:Nat->Prop) [DecidablePred P]:SpOK (s.zap P):=⟨ok.mem,λg k=>by
 simp only[Sp.zap]
 split
 ·exact .inl rfl
 ·exact ok.cur g k⟩
theorem hU{α:Type}{p q:Prop} [Decidable p] [Decidable q] (h:p ↔ q)(x y:α):(if p then x else y)=if q then x else y:=by
 by_cases hp:p
 ·rw[if_pos hp,if_pos (h.1 hp)]
 ·rw[if_neg hp,if_neg (λhq=>hp (h.2 hq))]
theorem SpAt.zapTo{H:zV}{b:Blk}{s:Sp}{P Q:Nat->Prop} [DecidablePred P] [DecidablePred Q] (h:SpAt H b (s.zap P))(e: ∀i,i<5->(P i ↔ Q i)):SpAt H b (s.zap Q):=h.alike rfl (λi k hi _=>by
 simp only[Sp.zap]
 exact hU (e i hi).symm _ _)
theorem SpAt.zapMore{H:zV}{b:Blk}{s:Sp}{P R Q:Nat->Prop} [DecidablePred P] [DecidablePred R] [DecidablePred Q] (h:SpAt H b ((s.zap P).zap R))(e: ∀i,i<5->(P i\/R i ↔ Q i)):SpAt H b (s.zap Q):=h.alike rfl (λi k hi _=>by
 simp only[Sp.zap]
 by_cases hr:R i
 ·rw[if_pos hr,if_pos ((e i hi).1 (.inr hr))]
 ·rw[if_neg hr]
  exact hU ⟨λhq=>((e i hi).2 hq).resolve_right hr,λhp=>(e i hi).1 (.inl hp)⟩ _ _)
set_option maxRecDepth 100000 in
theorem ke{H:zV}{b:Blk}{s:Sp}{gB:zW}{gN gC:Nat}{gs:List Int}(h:SpAt H b s)(hg:dd H gB (ivs gs))(hgn:gN=gs.length)(hgl:gN<=1000)(hgb: ∀i∈blks gB,i≠b.sp):
  cH.C (some ⟨b.sp,0,none⟩) gB gN gC H (λ_ H'=>SpAt H' b (s.fresh gs)/\Fr [b.sp] H H'):=by
 refine HC.via λR hR=>cH.link ?_
 unfold cH.pt zY
 rw[onPtr_some]
 subst hgn
 have h0:SpAt H b (s.zap λi=>(i:Int)<0/\(gs=[]\/(i:Int)∈gs)):=h.alike rfl (λg k _ _=>by simp only[Sp.zap];rw[if_neg (by omega)])
 refine⟨λg A=>(0<=g/\g<=5)/\SpAt A b (s.zap λi=>(i:Int)<g/\(gs=[]\/(i:Int)∈gs))/\Fr [b.sp] H A,λg _=>(5-g).toNat,⟨by omega,h0,Fr.refl _ _⟩,?_⟩
 rintro g H1 ⟨hgb2,h1,f1⟩
 by_cases hlt:g<5
 case neg=>
  rw[if_neg hlt]
  exact hR _ _ ⟨h1.zapTo (λi hi=>⟨λq=>q.2,λq=>⟨by omega,q⟩⟩),f1⟩
 rw[if_pos hlt]
 have hw:IntKind.wrap .i64 (g+1)=g+1:=w64 (by omega)
 have hd:(5-(g+1)).toNat< (5-g).toNat:=by omega
 have src: ∀{A:zV},Fr [b.sp] H A->dd A gB (ivs gs):=λ{A} f=>by
  cases gB with
  | none=>exact hg
  | some a=>exact f.rowAt (by have:=hgb a.block (by simp);simp;exact this) hg
 refine⟨λj A=>(0<=j/\j<=gs.length)/\SpAt A b (s.zap λi=>(i:Int)<g/\(gs=[]\/(i:Int)∈gs)\/(i:Int)=g/\g∈gs.take j.toNat)/\Fr [b.sp] H A,λj _=>(gs.length-j).toNat,⟨by omega,h1.zapTo (λi _=>⟨λq=> .inl q,λq=>by
  rcases q with q | q
  ·exact q
  ·simp at q⟩),f1⟩,?_⟩
 rintro j H2 ⟨hj,h2,f2⟩
 by_cases hjl:j< (gs.length:Int)
 ·rw[if_pos hjl]
  have hjn:j.toNat<gs.length:=by omega
  obtain⟨a,ha,hat⟩:=jq (src f2) hjn
  have hwj:IntKind.wrap .i64 (j+1)=j+1:=w64 (by omega)
  have hdj:((gs.length:Int)-(j+1)).toNat< ((gs.length:Int)-j).toNat:=by omega
  have ht:gs.take (j+1).toNat=gs.take j.toNat++[gs[j.toNat]]:=by rw[show(j+1).toNat=j.toNat+1 by omega,List.take_succ_eq_append_getElem hjn]
  refine⟨a,ha,⟨hj.1,hjl⟩,_,hat,?_⟩
  rw[hwj]
  by_cases he:gs[j.toNat]=g
  ·rw[if_pos he]
   have hp:=h2.put4 (g:=g.toNat) (by omega)
   rw[addr_add_mk,addr_add_mk,Nat.zero_add]
   refine⟨⟨hgb2.1,hlt⟩,hp.1,λH3 hH3=>?_⟩
   subst hH3
   refine⟨⟨by omega,hp.2.1.zapMore (λi hi=>⟨λq=>?_,λq=>?_⟩),f2.trans hp.2.2⟩,hdj⟩
   ·rcases q with(q | q) | q
    ·exact .inl q
    ·exact .inr ⟨q.1,by rw[ht];exact List.mem_append_left _ q.2⟩
    ·exact .inr ⟨by omega,by rw[ht,he];simp⟩
   ·rcases q with q | q
    ·exact .inl (.inl q)
    ·exact .inr (by omega)
  ·rw[if_neg he]
   have hm:g∈gs.take (j+1).toNat ↔ g∈gs.take j.toNat:=by
    rw[ht,List.mem_append]
    exact⟨λq=>q.elim id (λq=>absurd (by simpa using q:g=gs[j.toNat]).symm he),.inl⟩
   exact⟨⟨by omega,h2.zapTo (λi hi=>by rw[hm]),f2⟩,hdj⟩
 ·rw[if_neg hjl]
  rw[List.take_of_length_le (by omega)]at h2
  by_cases h0:(gs.length:Int)=0
  ·rw[if_pos h0]
   have hgs:gs=[]:=List.length_eq_zero_iff.1 (by omega)
   have hp:=h2.put4 (g:=g.toNat) (by omega)
   rw[addr_add_mk,addr_add_mk,Nat.zero_add]
   refine⟨⟨hgb2.1,hlt⟩,hp.1,λH3 hH3=>?_⟩
   subst hH3
   rw[hw]
   refine⟨⟨by omega,hp.2.1.zapMore (λi hi=>⟨λq=>?_,λq=>?_⟩),f2.trans hp.2.2⟩,hd⟩
   ·rcases q with(q | q) | q
    ·exact⟨by omega,q.2⟩
    ·exact⟨by omega,.inl hgs⟩
    ·exact⟨by omega,.inl hgs⟩
   ·by_cases hi2:(i:Int)<g
    ·exact .inl (.inl ⟨hi2,q.2⟩)
    ·exact .inr (by omega)
  ·rw[if_neg h0,hw]
   have hne:gs≠[]:=λh=>h0 (by rw[h];rfl)
   refine⟨⟨by omega,h2.zapTo (λi hi=>⟨λq=>?_,λq=>?_⟩),f2⟩,hd⟩
   ·rcases q with q | q
    ·exact⟨by omega,q.2⟩
    ·exact⟨by omega,.inr (by rw[q.1];exact q.2)⟩
   ·by_cases hi2:(i:Int)<g
    ·exact .inl ⟨hi2,q.2⟩
    ·have hig:(i:Int)=g:=by omega
     refine .inr ⟨hig,?_⟩
     rcases q.2 with q | q
     ·exact absurd q hne
     ·rw[<-hig];exact q

def Mem.dirtyAt(m:Mem)(g:Int)(k n:Nat):List (Int×Int):=((List.range n).filter λi=>decide (g< (m.seg k).gen/\(m.seg k).cards i<=g)).map λi:Nat=>((k:Int),(i:Int))
def Mem.dirtyOf(m:Mem)(g:Int)(l:List Nat):List (Int×Int):=l.flatMap λk=>m.dirtyAt g k 4
theorem Mem.dirtyAt_len(m:Mem)(g:Int)(k n:Nat):(m.dirtyAt g k n).length<=n:=by
 unfold Mem.dirtyAt;rw[List.length_map];exact Nat.le_trans (List.length_filter_le _ _) (by simp)
theorem Mem.dirtyOf_len(m:Mem)(g:Int): ∀l:List Nat,(m.dirtyOf g l).length<=4*l.length
 | []=>by simp[Mem.dirtyOf]
 | k::l=>by
  have h1:=m.dirtyAt_len g k 4
  have h2:=m.dirtyOf_len g l
  unfold Mem.dirtyOf at*
  rw[List.flatMap_cons,List.length_append,List.length_cons];omega
theorem Mem.dirtyAt_succ(m:Mem)(g:Int)(k n:Nat):m.dirtyAt g k (n+1)=m.dirtyAt g k n++(if g< (m.seg k).gen/\(m.seg k).cards n<=g then[((k:Int),(n:Int))]else[]):=by
 unfold Mem.dirtyAt
 rw[List.range_succ,List.filter_append,List.map_append]
 congr 1
 by_cases h:g< (m.seg k).gen/\(m.seg k).cards n<=g
 ·rw[if_pos h];simp[h]
 ·rw[if_neg h];simp at h⊢;exact h
theorem Mem.mem_dirty{m:Mem}{g:Int}{l:List Nat}{c:Int×Int}:c∈m.dirtyOf g l ↔ ∃k∈l,∃i:Nat,i<4/\c=((k:Int),(i:Int))/\g< (m.seg k).gen/\(m.seg k).cards i<=g:=by
 unfold Mem.dirtyOf Mem.dirtyAt
 simp only[List.mem_flatMap,List.mem_map,List.mem_filter,List.mem_range,decide_eq_true_eq]
 constructor
 ·rintro⟨k,hk,i,⟨hi,h1,h2⟩,rfl⟩;exact⟨k,hk,i,hi,rfl,h1,h2⟩
 ·rintro⟨k,hk,i,hi,rfl,h1,h2⟩;exact⟨k,hk,i,⟨hi,h1,h2⟩,rfl⟩
theorem iU(a c:List (Int×Int)):cU (a++c)=cU a++cU c:=by unfold cU;rw[List.flatMap_append]
set_option maxRecDepth 100000 in
theorem kQ{H:zV}{b:Blk}{s:Sp}{g:Int}(h:CdAt H b s)(ok:SpOK s):
  cQ.C (some ⟨b.c,0,none⟩) g H (λv H'=> ∃(B:zW) (n c:Nat) (l:List Nat),v=.slice B n c/\dP s.mem [] l/\n=(s.mem.dirtyOf g l).length/\Own H' 121 2 B n c (cU (s.mem.dirtyOf g l))/\(∀i∈blks B,H.size<=i)/\Ext H H'):=by
 refine HC.via λR hR=>cQ.link ?_
 unfold cQ.pt zY
 refine HC.mono (gq h) ?_
 rintro _ H1 ⟨rfl,rfl⟩
 refine⟨_,rfl,?_⟩
 rw[if_neg (by decide)]
 refine⟨_,rfl,_,h.cPtr,_,rfl,_,h.sp.memPtr,?_⟩
 refine HC.mono (fR (gs:=[]) h.sp.mem ok.mem (show dd H1 none (ivs [])from rfl) rfl (by decide)) ?_
 rintro _ H2 ⟨B0,c0,l,rfl,hl,how0,hfr0,e2⟩
 refine⟨_,_,_,rfl,?_⟩
 have hlen:=hl.len
 have hlim:=ok.mem.lim
 refine⟨λB n c i A=>(0<=i/\i<=l.length)/\n=(s.mem.dirtyOf g (l.take i.toNat)).length/\Own A 121 2 B n c (cU (s.mem.dirtyOf g (l.take i.toNat)))/\(∀j∈blks B,H2.size<=j)/\Ext H2 A,λ_ _ _ i _=>(l.length-i).toNat,
  ⟨by omega,rfl,gJ,by simp,Ext.refl _⟩,?_⟩
 rintro B n c i H3 ⟨hi,rfl,how,hfr,e3⟩
 by_cases hlt:i< (l.length:Int)
 case neg=>
  rw[if_neg hlt]
  rw[List.take_of_length_le (by omega)]at how⊢
  exact hR _ _ ⟨B,_,c,l,rfl,hl,rfl,how,λj hj=>by have:=hfr j hj;have:=e2.size;omega,e2.trans e3⟩
 rw[if_pos hlt]
 have hil:i.toNat<l.length:=by omega
 obtain⟨a,ha,hata⟩:=jO (how0.ext e3) hil
 obtain⟨khas,klim,kpos,_⟩:=hl.has (List.getElem_mem hil)
 have ht:l.take (i+1).toNat=l.take i.toNat++[l[i.toNat]]:=by rw[show(i+1).toNat=i.toNat+1 by omega,List.take_succ_eq_append_getElem hil]
 generalize hk:l[i.toNat]=k at*
 have h3:=h.ext (e2.trans e3)
 have ld:=s.mem.dirtyOf_len g (l.take i.toNat)
 have ll:(l.take i.toNat).length<=1024:=by rw[List.length_take];omega
 refine⟨a,ha,⟨hi.1,hlt⟩,(k:Int),hata,_,h3.cPtr,_,rfl,_,h3.sp.memPtr,?_⟩
 refine HC.mono (eO h3.sp.mem) ?_
 rintro _ H4 ⟨rfl,e4⟩
 have hsg:s.mem.segOr k=s.mem.seg k:=by unfold Mem.segOr;rw[if_pos khas,show((k:Nat):Int).toNat=k by omega]
 rw[hsg]
 refine⟨_,_,_,_,_,_,_,_,rfl,λc5 H5 hc5 hH5=>?_⟩
 obtain⟨hcp,hs⟩:=fK (s.mem.seg k) hc5 hH5
 refine⟨hcp,λH6 hH6=>?_⟩
 obtain⟨e6,hg6,_,_,hr6⟩:=hs H6 hH6
 have hr6':=hr6
 simp only[aT,and_true,addr_add_mk,Nat.zero_add]at hr6'
 refine⟨(s.mem.seg k).cards 0,(s.mem.seg k).cards 1,(s.mem.seg k).cards 2,(s.mem.seg k).cards 3,?_,?_⟩
 ·rw[addr_add_mk]
  refine⟨?_,?_,?_,?_,trivial⟩<;>rw[addr_add_mk]
  ·exact hr6'.2.2.2.1
  ·exact hr6'.2.2.2.2.1
  ·exact hr6'.2.2.2.2.2.1
  ·exact hr6'.2.2.2.2.2.2
 have e36:=e4.trans e6
 have c5n:H3.size<=c5:=by have:=e4.size;omega
 have hw:IntKind.wrap .i64 (i+1)=i+1:=w64 (by omega)
 have hdi:((l.length:Int)-(i+1)).toNat< ((l.length:Int)-i).toNat:=by omega
 refine⟨λB' n' c' j A=>(0<=j/\j<=4)/\n'=(s.mem.dirtyOf g (l.take i.toNat)++s.mem.dirtyAt g k j.toNat).length/\Own A 121 2 B' n' c' (cU (s.mem.dirtyOf g (l.take i.toNat)++s.mem.dirtyAt g k j.toNat))/\(∀j∈blks B',H2.size<=j/\j≠c5)/\Ext H2 A/\hat A ⟨c5,0,none⟩=some (.int .i64 (s.mem.seg k).gen),λ_ _ _ j _=>(4-j).toNat,
  ⟨by omega,by simp[Mem.dirtyAt],by simpa[Mem.dirtyAt]using how.ext e36,λj hj=>⟨hfr j hj,by have:=how.lt j hj;omega⟩,e3.trans e36,hg6⟩,?_⟩
 rintro B' n' c' j H7 ⟨hj,rfl,how7,hfr7,e7,hg7⟩
 by_cases hj4:j<4
 case neg=>
  rw[if_neg hj4,hw]
  have hj':j.toNat=4:=by omega
  rw[hj']at how7⊢
  have hd:s.mem.dirtyOf g (l.take (i+1).toNat)=s.mem.dirtyOf g (l.take i.toNat)++s.mem.dirtyAt g k 4:=by
   rw[ht];unfold Mem.dirtyOf;rw[List.flatMap_append];simp
  refine⟨⟨by omega,by rw[hd],by rw[hd];exact how7,λj hj=>(hfr7 j hj).1,e7⟩,hdi⟩
 rw[if_pos hj4]
 have hcd: ∃q:Nat,j=q/\q<4:=⟨j.toNat,by omega,by omega⟩
 obtain⟨jn,rfl,hjn⟩:=hcd
 have hwj:IntKind.wrap .i64 ((jn:Int)+1)=(jn:Int)+1:=w64 (by omega)
 have hsucc:((jn:Int)+1).toNat=jn+1:=by omega
 refine⟨(s.mem.seg k).cards jn,⟨⟨by omega,hj4⟩,?_⟩,_,hg7,?_⟩
 ·rcases(show jn=0\/jn=1\/jn=2\/jn=3 by omega)with rfl | rfl | rfl | rfl<;>rfl
 rw[hwj]
 have hjt:((jn:Int)).toNat=jn:=by omega
 rw[hjt]at how7
 rw[hjt]
 have hda:=s.mem.dirtyAt_len g k jn
 have hdj:(4-((jn:Int)+1)).toNat< (4-(jn:Int)).toNat:=by omega
 by_cases hd:g< (s.mem.seg k).gen/\(s.mem.seg k).cards jn<=g
 ·rw[if_pos (by simp;exact⟨hd.1,hd.2⟩)]
  intro c8 H8 hc8 hH8
  have e8:Ext H7 H8:=Ext.push' hH8
  refine ft (ys:=[.int .i64 (k:Int),.int .i64 (jn:Int)]) (how7.ext e8) (fd (aL hc8 hH8) _ 0 0 (λj hj=>by
   simp only[List.length_cons,List.length_nil]at hj
   rcases(show j=0\/j=1 by omega)with rfl | rfl<;>rfl)) rfl rfl rfl (by rw[List.length_append];omega) ?_
  intro p' c9 H9 how9 f9 hn9
  have hs9:s.mem.dirtyAt g k (jn+1)=s.mem.dirtyAt g k jn++[((k:Int),(jn:Int))]:=by rw[Mem.dirtyAt_succ,if_pos hd]
  refine⟨⟨by omega,by rw[hsucc,hs9];simp;omega,?_,λj hj=>?_,(e7.trans e8).fr_trans f9 (λj hj=>(hfr7 j hj).1),f9.hat (λhm=>(hfr7 _ hm).2 rfl) (e8.hat hg7)⟩,hdj⟩
  ·rw[hsucc,hs9,<-List.append_assoc,iU];exact how9
  ·rcases hn9 j hj with q | q
   ·exact hfr7 j q
   ·have:=e7.size;have:=e8.size
    have h5:c5<H7.size:=by
     unfold Go.Proofs.YtmlhlkbpglcccaaGreat.hat at hg7
     rcases Nat.lt_or_ge c5 H7.size with h | h
     ·exact h
     ·simp[Array.getElem?_eq_none h]at hg7
    exact⟨by omega,by omega⟩
 ·rw[if_neg (by simpa using hd)]
  have hs9:s.mem.dirtyAt g k (jn+1)=s.mem.dirtyAt g k jn:=by rw[Mem.dirtyAt_succ,if_neg hd,List.append_nil]
  exact⟨⟨by omega,by rw[hsucc,hs9],by rw[hsucc,hs9];exact how7,hfr7,e7,hg7⟩,hdj⟩
