/-
 A trace (package trace): its place on the heap; what is old, what has moved. Proves nothing of any one statement.
-/
import Derived.Test.YtmlhlkbpglcccaaGreatFtrace
import Derived.Test.YtmlhlkbpglcccaaGreatFtrace1
import Derived.Test.YtmlhlkbpglcccaaGreatFtrace2
import Derived.Test.YtmlhlkbpglcccaaGreatCons
set_option linter.unusedVariables false
set_option linter.unusedSimpArgs false
namespace Go.Proofs.YtmlhlkbpglcccaaGreat
open Go

structure Tr where
 tgt:Int
 old:Nat->Bool
 frm:List (Int×Value)
 seen:List (Int×Value)
 cards:List (Int×Int)
 over:Bool
structure TB where
 t:Nat
 f:Nat
 s:Nat
 cB:zW
 cN:Nat
 cC:Nat
def TB.all(q:TB):List Nat:=q.t::q.f::q.s::blks q.cB
def cU(l:List (Int×Int)):List Value:=l.flatMap λc=> [.int .i64 c.1,.int .i64 c.2]
structure TrAt (H:zV) (b:Blk) (q:TB) (t:Tr):Prop where
 tr: ∃cs:Array Value,H[q.t]?=some (.cells cs 100 (0,0))/\cs.size=1030/\cs[0]?=some (.pointer (some ⟨b.h,0,none⟩))/\cs[1]?=some (.int .i64 t.tgt)/\(∀k,k<1024->cs[2+k]?=some (.int .i64 (if t.old k then 1 else 0)))/\cs[1026]?=some (.map (some q.f))/\cs[1027]?=some (.map (some q.s))/\cs[1028]?=some (.slice q.cB q.cN q.cC)/\cs[1029]?=some (.int .i64 (if t.over then 1 else 0))
 frm: ∃(es:Array MapEntry) (cl:Nat),H[q.f]?=some (.map es cl)/\Ents (cV .i64) es.toList t.frm
 seen: ∃(es:Array MapEntry) (cl:Nat),H[q.s]?=some (.map es cl)/\Ents (cV .i64) es.toList t.seen
 cards:dd H q.cB (cU t.cards)
 cB: ∀a,q.cB=some a->a.block<H.size
 clen:q.cN=t.cards.length/\q.cN<=4096
 ne:q.t≠q.f/\q.t≠q.s/\q.f≠q.s/\ ∀i∈blks q.cB,i≠q.t/\i≠q.f/\i≠q.s
theorem TrAt.lt{H:zV}{b:Blk}{q:TB}{t:Tr}(h:TrAt H b q t): ∀i,i∈q.all->i<H.size:=by
 intro i hi
 obtain⟨cs,h1,_⟩:=h.tr
 obtain⟨es,cl,h2,_⟩:=h.frm
 obtain⟨es',cl',h3,_⟩:=h.seen
 have l1:=bH h1
 have l2:=bH h2
 have l3:=bH h3
 simp only[TB.all,List.mem_cons]at hi
 rcases hi with rfl | rfl | rfl | hi
 ·exact l1
 ·exact l2
 ·exact l3
 ·cases hc:q.cB with
  | none=>rw[hc]at hi;simp at hi
  | some a=>rw[hc]at hi;simp at hi;rw[hi];exact h.cB a hc
theorem TrAt.keep{S:List Nat}{H H':zV}{b:Blk}{q:TB}{t:Tr}(h:TrAt H b q t)(f:Fr S H H')(hS: ∀i,i∈S->i ∉ q.all):TrAt H' b q t:=by
 obtain⟨cs,h1,hr⟩:=h.tr
 obtain⟨es,cl,h2,hr2⟩:=h.frm
 obtain⟨es',cl',h3,hr3⟩:=h.seen
 refine⟨⟨cs,f.get (λhi=>hS _ hi (by simp[TB.all])) h1,hr⟩,⟨es,cl,f.get (λhi=>hS _ hi (by simp[TB.all])) h2,hr2⟩,⟨es',cl',f.get (λhi=>hS _ hi (by simp[TB.all])) h3,hr3⟩,?_,λa ha=>Nat.lt_of_lt_of_le (h.cB a ha) f.size,h.clen,h.ne⟩
 have hc:=h.cards
 cases hb:q.cB with
 | none=>rw[hb]at hc;exact hc
 | some a=>
  rw[hb]at hc
  exact f.rowAt (λhi=>hS _ hi (by simp[TB.all,hb])) hc
theorem TrAt.ext{H H':zV}{b:Blk}{q:TB}{t:Tr}(h:TrAt H b q t)(e:Ext H H'):TrAt H' b q t:=h.keep (S:=[]) e.fr (by simp)
theorem TrAt.hPtr{H:zV}{b:Blk}{q:TB}{t:Tr}(h:TrAt H b q t):hat H ⟨q.t,0,none⟩=some (.pointer (some ⟨b.h,0,none⟩)):=by
 obtain⟨cs,h1,_,h0,_⟩:=h.tr
 rw[aM h1,h0]
theorem TrAt.tgtAt{H:zV}{b:Blk}{q:TB}{t:Tr}(h:TrAt H b q t):hat H ⟨q.t,1,none⟩=some (.int .i64 t.tgt):=by
 obtain⟨cs,h1,_,_,h0,_⟩:=h.tr
 rw[aM h1,h0]
theorem TrAt.oldAt{H:zV}{b:Blk}{q:TB}{t:Tr}(h:TrAt H b q t){k:Nat}(hk:k<1024):hat H ⟨q.t,2+k,none⟩=some (.int .i64 (if t.old k then 1 else 0)):=by
 obtain⟨cs,h1,_,_,_,h0,_⟩:=h.tr
 rw[aM h1,h0 k hk]
theorem TrAt.fAt{H:zV}{b:Blk}{q:TB}{t:Tr}(h:TrAt H b q t):hat H ⟨q.t,1026,none⟩=some (.map (some q.f)):=by
 obtain⟨cs,h1,_,_,_,_,h0,_⟩:=h.tr
 rw[aM h1,h0]
theorem TrAt.sAt{H:zV}{b:Blk}{q:TB}{t:Tr}(h:TrAt H b q t):hat H ⟨q.t,1027,none⟩=some (.map (some q.s)):=by
 obtain⟨cs,h1,_,_,_,_,_,h0,_⟩:=h.tr
 rw[aM h1,h0]
theorem TrAt.cAt{H:zV}{b:Blk}{q:TB}{t:Tr}(h:TrAt H b q t):hat H ⟨q.t,1028,none⟩=some (.slice q.cB q.cN q.cC):=by
 obtain⟨cs,h1,_,_,_,_,_,_,h0,_⟩:=h.tr
 rw[aM h1,h0]
theorem TrAt.oAt{H:zV}{b:Blk}{q:TB}{t:Tr}(h:TrAt H b q t):hat H ⟨q.t,1029,none⟩=some (.int .i64 (if t.over then 1 else 0)):=by
 obtain⟨cs,h1,_,_,_,_,_,_,_,h0⟩:=h.tr
 rw[aM h1,h0]

structure Tc (H:zV) (b:Blk) (x:Hp) (q:TB) (t:Tr):Prop where
 hp:HpAt H b x
 ok:SpOK x.sp
 tr:TrAt H b q t
 apart: ∀i,i∈q.all->i ∉ b.all
theorem Tc.ext{H H':zV}{b:Blk}{x:Hp}{q:TB}{t:Tr}(h:Tc H b x q t)(e:Ext H H'):Tc H' b x q t:=⟨h.hp.ext e,h.ok,h.tr.ext e,h.apart⟩
theorem Tc.keep{S:List Nat}{H H':zV}{b:Blk}{x:Hp}{q:TB}{t:Tr}(h:Tc H b x q t)(f:Fr S H H')(h1: ∀i,i∈S->i ∉ b.all)(h2: ∀i,i∈S->i ∉ q.all):Tc H' b x q t:=⟨h.hp.keep f h1,h.ok,h.tr.keep f h2,h.apart⟩
theorem Tc.view{H:zV}{b:Blk}{x:Hp}{q:TB}{t:Tr}(h:Tc H b x q t):View H (some ⟨b.h,0,none⟩) (some (b,x)):=.real h.hp h.ok
theorem Tc.step{S:List Nat}{H H':zV}{b:Blk}{x x':Hp}{q:TB}{t:Tr}(h:Tc H b x q t)(f:Fr S H H')(hS: ∀i,i∈S->i∈b.all)(hp:HpAt H' b x')(ok:SpOK x'.sp):Tc H' b x' q t:=
 ⟨hp,ok,h.tr.keep f (λi hi hq=>h.apart i hq (hS i hi)),h.apart⟩
abbrev spB(b:Blk):List Nat:=[b.sp,b.m,b.s]
theorem fj{b:Blk}{i:Nat}(h:i∈spB b):i∈b.all:=by simp[spB]at h;simp[Blk.all];omega
theorem Tc.withMem{S:List Nat}{H H':zV}{b:Blk}{x:Hp}{q:TB}{t:Tr}{m:Mem}(h:Tc H b x q t)(f:Fr S H H')(hS: ∀i,i∈S->i=b.m\/i=b.s)(hm:cx H' b.m b.s m)(ok:SpOK {x.sp with mem:=m}):Tc H' b {x with sp:={x.sp with mem:=m}} q t:=
 h.step f (λi hi=>by rcases hS i hi with rfl | rfl<;>simp[Blk.all]) (h.hp.withMem f hS hm) ok
theorem Tc.s1{H:zV}{b:Blk}{x:Hp}{q:TB}{t:Tr}(h:Tc H b x q t):hat H ⟨q.t,0,none⟩=some (.pointer (some ⟨b.h,0,none⟩))/\hat H ⟨b.h,0,none⟩=some (.pointer (some ⟨b.c,0,none⟩))/\hat H ⟨b.c,0,none⟩=some (.pointer (some ⟨b.sp,0,none⟩))/\hat H ⟨b.sp,0,none⟩=some (.pointer (some ⟨b.m,0,none⟩)):=
 ⟨h.tr.hPtr,h.hp.hPtr,h.hp.cd.cPtr,h.hp.cd.sp.memPtr⟩

theorem fZ{H:zV}{b:Blk}{x:Hp}{q:TB}{t:Tr}(T:Tc H b x q t):bF.C (some ⟨q.t,0,none⟩) H (λv H'=>v=.bool t.over/\H'=H):=by
 refine HC.via λR hR=>bF.link ?_
 unfold bF.pt
 rw[onPtr_some]
 refine⟨_,T.tr.hPtr,?_⟩
 rw[onPtr_some]
 refine⟨_,by rw[addr_add_mk];exact T.tr.oAt,hR _ _ ⟨?_,rfl⟩⟩
 cases t.over<;>rfl

def aQ(old:Nat->Bool)(w:Int):Prop:=eC w/\w % 8≠6/\old (w / 8 / 64).toNat=true
instance (old:Nat->Bool) (w:Int):Decidable (aQ old w):=by unfold aQ;infer_instance
theorem jL(w:Int): ∃(a:Int) (p:Bool),(if(w % 8=1\/w % 8=2\/w % 8=3\/w % 8=6)/\w / 8<65536 then Value.tuple #[.int .i64 (w / 8),.bool true]else .tuple #[.int .i64 0,.bool false])=.tuple #[.int .i64 a,.bool p]/\((eC w/\p=true/\a=w / 8)\/(¬eC w/\p=false/\a=0)):=by
 by_cases hh:(w % 8=1\/w % 8=2\/w % 8=3\/w % 8=6)/\w / 8<65536
 ·rw[if_pos hh];exact⟨_,_,rfl,.inl ⟨hh,rfl,rfl⟩⟩
 ·rw[if_neg hh];exact⟨_,_,rfl,.inr ⟨hh,rfl,rfl⟩⟩
theorem jM{H:zV}{b:Blk}{x:Hp}{q:TB}{t:Tr}{w:Int}(T:Tc H b x q t)(hw:aH w):
  cy.C (some ⟨q.t,0,none⟩) w H (λv H'=>v=.bool (decide (t.over=false/\aQ t.old w))/\Ext H H'):=by
 refine HC.via λR hR=>cy.link ?_
 unfold cy.pt zY
 refine HC.mono (fx hw) ?_
 rintro _ H1 ⟨rfl,e1⟩
 obtain⟨a,p,hv,hd⟩:=jL w
 refine⟨a,p,hv,?_⟩
 refine HC.mono (fZ (T.ext e1)) ?_
 rintro _ H2 ⟨rfl,rfl⟩
 refine⟨_,rfl,?_⟩
 have no: ∀H',¬(t.over=false/\aQ t.old w)->Ext H H'->R (.bool false) H':=λH' hn e=>hR _ _ ⟨by rw[zQ hn],e⟩
 by_cases ho:t.over=true
 ·rw[if_pos ho];exact no _ (λh=>by rw[ho]at h;cases h.1) e1
 rw[if_neg ho]
 rcases hd with⟨ha,rfl,rfl⟩ | ⟨ha,rfl,rfl⟩
 case inr=>rw[if_neg (by decide)];exact no _ (λh=>ha h.2.1) e1
 rw[if_pos rfl]
 refine HC.mono (eN hw) ?_
 rintro _ H3 ⟨rfl,e3⟩
 refine⟨_,rfl,?_⟩
 by_cases h6:w % 8=6
 ·rw[if_pos h6];exact no _ (λh=>h.2.2.1 h6) (e1.trans e3)
 rw[if_neg h6]
 have hw8:w / 8<65536:=ha.2
 have hw0:0<=w / 8:=by have:=hw.1;omega
 rw[fO hw0,w64 (n:=w / 8 / 64) (by omega)]
 have T3:=T.ext (e1.trans e3)
 refine⟨_,rfl,⟨by omega,by omega⟩,(if t.old (w / 8 / 64).toNat then 1 else 0),?_,hR _ _ ⟨?_,e1.trans e3⟩⟩
 ·rw[addr_add_mk,addr_add_mk,Nat.zero_add,Nat.mul_one];exact T3.tr.oldAt (by omega)
 ·congr 1
  by_cases hq:t.old (w / 8 / 64).toNat=true
  ·rw[if_pos hq,zX ⟨by simpa using ho,ha,h6,hq⟩];rfl
  ·rw[if_neg hq,zQ (λh=>hq h.2.2.2)];rfl

def Mem.fwd(m:Mem)(w:Int):Option Int:=if m.used (w / 8)/\eC (m.get (w / 8))/\m.get (w / 8) % 8=6 then some (m.get (w / 8) / 8*8+w % 8)else none
theorem jN{H:zV}{b:Blk}{x:Hp}{q:TB}{t:Tr}{w:Int}(T:Tc H b x q t)(hw:aH w)(ha:eC w):
  bX.C (some ⟨q.t,0,none⟩) w H (λv H'=>v=.tuple #[.int .u64 ((x.sp.mem.fwd w).getD w),.bool (x.sp.mem.fwd w).isSome]/\Ext H H'):=by
 refine HC.via λR hR=>bX.link ?_
 unfold bX.pt
 refine HC.mono (fx hw) ?_
 rintro _ H1 ⟨rfl,e1⟩
 rw[if_pos (show(w % 8=1\/w % 8=2\/w % 8=3\/w % 8=6)/\w / 8<65536 from ha)]
 have T1:=T.ext e1
 obtain⟨p1,p2,p3,p4⟩:=T1.s1
 refine⟨_,_,rfl,_,rfl,_,p1,_,rfl,_,p2,_,rfl,_,p3,_,rfl,_,p4,?_⟩
 have hw8:w / 8<65536:=ha.2
 have hw0:0<=w / 8:=by have:=hw.1;omega
 refine HC.mono (eX T1.hp.cd.sp.mem T1.ok.mem (by omega)) ?_
 rintro _ H2 ⟨rfl,rfl⟩
 have hg: ∃(g e:Int),(if x.sp.mem.used (w / 8)then Value.tuple #[.int .u64 (x.sp.mem.get (w / 8)),.int .i64 0]else .tuple #[.int .u64 0,.int .i64 18])=.tuple #[.int .u64 g,.int .i64 e]/\aH g/\((x.sp.mem.used (w / 8)/\g=x.sp.mem.get (w / 8)/\e=0)\/(¬x.sp.mem.used (w / 8)/\g=0/\e=18)):=by
  by_cases hu:x.sp.mem.used (w / 8)
  ·rw[if_pos hu];exact⟨_,_,rfl,(T.ok.mem.seg _).words _,.inl ⟨hu,rfl,rfl⟩⟩
  ·rw[if_neg hu];exact⟨_,_,rfl,by decide,.inr ⟨hu,rfl,rfl⟩⟩
 obtain⟨g,e,hge,hgw,hd⟩:=hg
 refine⟨g,e,hge,?_⟩
 refine HC.mono (fx hgw) ?_
 rintro _ H3 ⟨rfl,e3⟩
 obtain⟨a,p,hv,hd2⟩:=jL g
 refine⟨a,p,hv,?_⟩
 have no: ∀H',¬(x.sp.mem.used (w / 8)/\eC (x.sp.mem.get (w / 8))/\x.sp.mem.get (w / 8) % 8=6)->Ext H H'->R (.tuple #[.int .u64 w,.bool false]) H':=λH' hn e=>hR _ _ ⟨by unfold Mem.fwd;rw[if_neg hn];rfl,e⟩
 rcases hd with⟨hu,rfl,rfl⟩ | ⟨hu,rfl,rfl⟩
 case inr=>rw[if_neg (by decide)];exact no _ (λh=>hu h.1) (e1.trans e3)
 rw[if_pos rfl]
 rcases hd2 with⟨hg,rfl,rfl⟩ | ⟨hg,rfl,rfl⟩
 case inr=>rw[if_neg (by decide)];exact no _ (λh=>hg h.2.1) (e1.trans e3)
 rw[if_pos rfl]
 refine HC.mono (eN hgw) ?_
 rintro _ H4 ⟨rfl,e4⟩
 refine⟨_,rfl,?_⟩
 by_cases h6:x.sp.mem.get (w / 8) % 8=6
 case neg=>rw[if_neg h6];exact no _ (λh=>h6 h.2.2) ((e1.trans e3).trans e4)
 rw[if_pos h6]
 refine HC.mono (eN hw) ?_
 rintro _ H5 ⟨rfl,e5⟩
 refine⟨_,rfl,?_⟩
 have hg8:x.sp.mem.get (w / 8) / 8<65536:=hg.2
 have hg0:=hgw.1
 refine HC.mono (gE (by omega) (by omega)) ?_
 rintro _ H6 ⟨rfl,e6⟩
 rw[if_neg (λhh=>hh ha.1),if_pos (by omega)]
 refine⟨_,_,rfl,hR _ _ ⟨?_,((((e1.trans e3).trans e4).trans e5).trans e6)⟩⟩
 unfold Mem.fwd
 rw[if_pos ⟨hu,hg,h6⟩];rfl
theorem gM{H:zV}{b:Blk}{x:Hp}{q:TB}{t:Tr}{w:Int}(T:Tc H b x q t)(hw:aH w):
  aY.C (some ⟨q.t,0,none⟩) w H (λv H'=>v=.bool (decide (¬(t.over=false/\aQ t.old w)) || (x.sp.mem.fwd w).isSome)/\Ext H H'):=by
 refine HC.via λR hR=>aY.link ?_
 unfold aY.pt
 refine HC.mono (jM T hw) ?_
 rintro _ H1 ⟨rfl,e1⟩
 refine⟨_,rfl,?_⟩
 by_cases ho:t.over=false/\aQ t.old w
 ·rw[if_pos (zX ho)]
  refine HC.mono (jN (T.ext e1) hw ho.2.1) ?_
  rintro _ H2 ⟨rfl,e2⟩
  refine⟨_,_,rfl,hR _ _ ⟨?_,e1.trans e2⟩⟩
  rw[zQ (λh=>h ho),Bool.false_or]
 ·rw[if_neg (by simpa using ho)]
  exact hR _ _ ⟨by rw[zX ho,Bool.true_or],e1⟩

def Mem.row(m:Mem)(a:Int)(n:Nat):List Int:=(List.range n).map λi:Nat=>m.get (a+(i:Int))
theorem Mem.row_len(m:Mem)(a:Int)(n:Nat):(m.row a n).length=n:=by simp[Mem.row]
theorem Mem.row_get(m:Mem)(a:Int){n i:Nat}(h:i<n):(m.row a n)[i]'(by rw[Mem.row_len];exact h)=m.get (a+i):=by simp[Mem.row]
theorem Mem.row_take(m:Mem)(a:Int){n i:Nat}(h:i<n):(m.row a n).take (i+1)=(m.row a n).take i++[m.get (a+i)]:=by
 rw[List.take_succ_eq_append_getElem (by rw[Mem.row_len];exact h),Mem.row_get m a h]
def Mem.kindOf(m:Mem)(w:Int):Int:=(m.seg (w / 8 / 64).toNat).kind
def Sp.moved(m:Mem)(w:Int)(r:Sp×Int×Int):Sp:={r.1 with mem:=(r.1.mem.sets r.2.1 (m.row (w / 8) (m.sizeOf w).toNat)).set (w / 8) (r.2.1*8+6)}
def Sp.visit(s:Sp)(old:Nat->Bool)(T w:Int):Sp×Int:=
 if ¬aQ old w then(s,w)
 else match s.mem.fwd w with
  | some v=>(s,v)
  | none=>
   if s.mem.sizeOf w=0 then(s,w)
   else if(s.alloc T (s.mem.kindOf w) (s.mem.sizeOf w)).2.2=0 then
    (Sp.moved s.mem w (s.alloc T (s.mem.kindOf w) (s.mem.sizeOf w)),(s.alloc T (s.mem.kindOf w) (s.mem.sizeOf w)).2.1*8+w % 8)
   else(s,w)
theorem Sp.visit_no{s:Sp}{old:Nat->Bool}{T w:Int}(h: ¬aQ old w):s.visit old T w=(s,w):=by unfold Sp.visit;rw[if_pos h]
theorem Sp.visit_fwd{s:Sp}{old:Nat->Bool}{T w v:Int}(h:aQ old w)(hf:s.mem.fwd w=some v):s.visit old T w=(s,v):=by unfold Sp.visit;rw[if_neg (λhh=>hh h),hf]
theorem Sp.visit_0{s:Sp}{old:Nat->Bool}{T w:Int}(h:aQ old w)(hf:s.mem.fwd w=none)(h0:s.mem.sizeOf w=0):s.visit old T w=(s,w):=by unfold Sp.visit;rw[if_neg (λhh=>hh h),hf];simp only[];rw[if_pos h0]
theorem Sp.visit_full{s:Sp}{old:Nat->Bool}{T w:Int}(h:aQ old w)(hf:s.mem.fwd w=none)(h0:s.mem.sizeOf w≠0)(ha:(s.alloc T (s.mem.kindOf w) (s.mem.sizeOf w)).2.2≠0):s.visit old T w=(s,w):=by unfold Sp.visit;rw[if_neg (λhh=>hh h),hf];simp only[];rw[if_neg h0,if_neg ha]
theorem Sp.visit_go{s:Sp}{old:Nat->Bool}{T w:Int}(h:aQ old w)(hf:s.mem.fwd w=none)(h0:s.mem.sizeOf w≠0)(ha:(s.alloc T (s.mem.kindOf w) (s.mem.sizeOf w)).2.2=0):
  s.visit old T w=(Sp.moved s.mem w (s.alloc T (s.mem.kindOf w) (s.mem.sizeOf w)),(s.alloc T (s.mem.kindOf w) (s.mem.sizeOf w)).2.1*8+w % 8):=by unfold Sp.visit;rw[if_neg (λhh=>hh h),hf];simp only[];rw[if_neg h0,if_pos ha]

theorem Mem.size_used{m:Mem}(ok:bI m)(he:m.Even){w:Int}(hw:aH w)(h:m.sizeOf w≠0):0<m.sizeOf w/\m.sizeOf w<=63/\(∀i:Nat,(i:Int)<m.sizeOf w->m.used (w / 8+i))/\w / 8 % 64+m.sizeOf w<=64/\0<=w / 8/\m.has (w / 8 / 64):=by
 unfold Mem.sizeOf at*
 have w0:0<=w / 8:=by have:=hw.1;omega
 by_cases hp:m.isPair w
 ·rw[if_pos hp]at h⊢
  have hd:m.has (w / 8 / 64)/\(m.seg (w / 8 / 64).toNat).kind<=1/\w / 8 % 64< (m.seg (w / 8 / 64).toNat).n:=by
   rcases hp.1 with q | q
   ·exact⟨q.2.2.1,by rw[q.2.2.2.1];decide,q.2.2.2.2⟩
   ·exact⟨q.2.2.1,by rw[q.2.2.2.1];decide,q.2.2.2.2⟩
  have hev:=he _ hd.2.1
  have h2:=hp.2
  have hn:=(ok.seg (w / 8 / 64).toNat).n
  refine⟨by decide,by decide,λi hi=>?_,by omega,w0,hd.1⟩
  have e1:(w / 8+i) / 64=w / 8 / 64:=by omega
  have e2:(w / 8+i) % 64=w / 8 % 64+i:=by omega
  exact⟨by omega,by rw[e1];exact hd.1,by rw[e1,e2];omega⟩
 ·rw[if_neg hp]at h⊢
  by_cases ho:m.isObj w
  ·rw[if_pos ho]at h⊢
   have hl:=ho.len_lt
   have hle:m.len w=hn (m.get (w / 8)):=by unfold Mem.len;rw[if_pos ho]
   have hlt:=ho.2.2
   have hn64:=(ok.seg (w / 8 / 64).toNat).n
   have hhas:=ho.1.2.2.1
   rw[hle]
   refine⟨by omega,by omega,λi hi=>?_,by omega,w0,hhas⟩
   have e1:(w / 8+i) / 64=w / 8 / 64:=by omega
   have e2:(w / 8+i) % 64=w / 8 % 64+i:=by omega
   exact⟨by omega,by rw[e1];exact hhas,by rw[e1,e2];omega⟩
  ·rw[if_neg ho]at h;exact absurd rfl h
theorem Grown.not_in{m m':Mem}{a g k n:Int}(gr:Grown m m' a n g k){x:Int}(hx:m.used x): ¬(a<=x/\x<a+n):=λh=>by
 obtain⟨a0,a1,a2⟩:=gr.addr
 have e1:x / 64=a / 64:=by omega
 by_cases h0:(m.seg (a / 64).toNat).taken=0
 ·have:=hx.2.1.2.2;rw[e1]at this;exact this h0
 ·have h3:=(gr.old h0).2.2.1
  have h4:=hx.2.2
  rw[e1]at h4
  omega
theorem Grown.get{m m':Mem}{a g k n:Int}(gr:Grown m m' a n g k){x:Int}(hx:m.used x):m'.get x=m.get x:=by
 unfold Mem.get
 by_cases hj:(x / 64).toNat=(a / 64).toNat
 ·have ht:(m.seg (a / 64).toNat).taken≠0:=by rw[<-hj];exact hx.2.1.2.2
  rw[hj,(gr.old ht).2.2.2.1]
 ·rw[gr.others _ hj]

set_option maxRecDepth 100000 in
theorem l5{H:zV}{b:Blk}{x:Hp}{q:TB}{t:Tr}{w:Int}(T:Tc H b x q t)(he:x.sp.mem.Even)(hw:aH w)(hc:x.sp.mem.count<4611686018427387904)(hov:t.over=false):
  aU.C (some ⟨q.t,0,none⟩) w H (λv H'=>v=.int .u64 (x.sp.visit t.old t.tgt w).2/\Tc H' b {x with sp:=(x.sp.visit t.old t.tgt w).1} q t/\Fr (spB b) H H'):=by
 refine HC.via λR hR=>aU.link ?_
 unfold aU.pt zY
 refine HC.mono (jM T hw) ?_
 rintro _ H1 ⟨rfl,e1⟩
 refine⟨_,rfl,?_⟩
 have same: ∀(v:Int) H',(x.sp.visit t.old t.tgt w)=(x.sp,v)->Ext H H'->R (.int .u64 v) H':=λv H' h e=>by
  rw[h]at hR;exact hR _ _ ⟨rfl,T.ext e,e.fr⟩
 by_cases ho:aQ t.old w
 case neg=>
  rw[if_neg (by simp[ho])]
  exact same w _ (Sp.visit_no ho) e1
 rw[if_pos (zX ⟨hov,ho⟩)]
 have T1:=T.ext e1
 refine HC.mono (jN T1 hw ho.1) ?_
 rintro _ H2 ⟨rfl,e2⟩
 refine⟨_,_,rfl,?_⟩
 have e12:=e1.trans e2
 cases hf:x.sp.mem.fwd w with
 | some v=>
  rw[if_pos (show(some v).isSome=true from rfl)]
  exact same v _ (Sp.visit_fwd ho hf) e12
 | none=>
 rw[if_neg (by simp)]
 have T2:=T.ext e12
 refine⟨_,rfl,_,T2.tr.hPtr,?_⟩
 refine HC.mono (lX T2.view hw) ?_
 rintro _ H3 ⟨rfl,e3⟩
 have hmo:mof (some (b,x))=x.sp.mem:=rfl
 rw[hmo]
 refine⟨_,rfl,?_⟩
 have e13:=e12.trans e3
 by_cases h0:x.sp.mem.sizeOf w=0
 ·rw[if_pos h0];exact same w _ (Sp.visit_0 ho hf h0) e13
 rw[if_neg h0]
 obtain⟨n0,n63,hu,hfit,w0,hhas⟩:=Mem.size_used T.ok.mem he hw h0
 have hw8:w / 8<65536:=ho.1.2
 refine HC.mono (fx hw) ?_
 rintro _ H4 ⟨rfl,e4⟩
 rw[if_pos (show(w % 8=1\/w % 8=2\/w % 8=3\/w % 8=6)/\w / 8<65536 from ho.1)]
 have e14:=e13.trans e4
 have T4:=T.ext e14
 obtain⟨p1,p2,p3,p4⟩:=T4.s1
 refine⟨_,_,rfl,_,p1,_,rfl,_,p2,_,rfl,_,p3,_,rfl,_,p4,?_⟩
 rw[fO w0,w64 (n:=w / 8 / 64) (by omega)]
 refine HC.mono (fY T4.hp.cd.sp.mem) ?_
 rintro _ H5 ⟨rfl,e5⟩
 rw[if_pos hhas,zX hhas]
 have hkd:(x.sp.mem.seg (w / 8 / 64).toNat).kind=x.sp.mem.kindOf w:=rfl
 generalize hsg:x.sp.mem.seg (w / 8 / 64).toNat=sg at*
 refine⟨_,_,_,_,_,_,_,_,rfl,λb1 H6 hb hH6=>?_⟩
 obtain⟨hcp,hs⟩:=boxed (vs:=[.int .i64 sg.gen,.int .i64 sg.kind,.int .i64 sg.n,.int .i64 (sg.cards 0),.int .i64 (sg.cards 1),.int .i64 (sg.cards 2),.int .i64 (sg.cards 3)]) (H1:=H6) (aL hb hH6) rfl rfl
 refine⟨hcp,λH7 hH7=>?_⟩
 obtain⟨hrow,hE⟩:=hs H7 hH7
 have e15:=e14.trans e5
 have e7:Ext H H7:=hE H (e15.trans (Ext.push' hH6)) (by have:=e15.size;omega)
 have T7:=T.ext e7
 obtain⟨p1,p2,p3,p4⟩:=T7.s1
 refine⟨_,p1,_,rfl,_,p2,_,rfl,_,p3,_,by rw[addr_add_mk];exact T7.tr.tgtAt,sg.kind,hrow.2.1,?_⟩
 rw[hkd]
 refine HC.mono (gy T7.hp.cd.sp T7.ok hc) ?_
 rintro _ H8 ⟨rfl,hs8,f8⟩
 refine⟨_,_,rfl,?_⟩
 have h8:=T7.hp.withSp f8 (λi hi=>by simp at hi;omega) hs8
 have f8':Fr (spB b) H H8:=e7.fr.trans f8
 by_cases ha:(x.sp.alloc t.tgt (x.sp.mem.kindOf w) (x.sp.mem.sizeOf w)).2.2=0
 case neg=>
  rw[if_neg ha]
  have ev:=Sp.visit_full ho hf h0 ha
  rw[ev]at hR
  rw[Sp.alloc_fail T.ok ha]at h8
  exact hR _ _ ⟨rfl,T.step f8' (λi hi=>fj hi) h8 T.ok,f8'⟩
 rw[if_pos ha]
 have ev:=Sp.visit_go ho hf h0 ha
 rw[ev]at hR
 obtain⟨ok2,gr⟩:=Sp.alloc_ok T.ok ha
 unfold Sp.moved at hR
 simp only at hR
 generalize hn:x.sp.mem.sizeOf w=n at*
 generalize hr:x.sp.alloc t.tgt (x.sp.mem.kindOf w) n=r at*
 obtain⟨s',a,e⟩:=r
 simp only at*
 have hlim:=T.ok.mem.lim
 obtain⟨a0,a1,a2⟩:=gr.addr
 have a64:a<65536:=by omega
 have hws: ∀v∈x.sp.mem.row (w / 8) n.toNat,aH v:=λv hv=>by
  unfold Mem.row at hv
  obtain⟨i,_,rfl⟩:=List.mem_map.1 hv
  exact(T.ok.mem.seg _).words _
 refine⟨λi H'=>(0<=i/\i<=n)/\Tc H' b {x with sp:={s' with mem:=s'.mem.sets a ((x.sp.mem.row (w / 8) n.toNat).take i.toNat)}} q t/\Fr (spB b) H H',λi _=>(n-i).toNat,⟨by omega,?_,f8'⟩,?_⟩
 ·rw[show(0:Int).toNat=0 from rfl,List.take_zero]
  exact T.step f8' (λi hi=>fj hi) h8 ok2
 rintro i H9 ⟨hi,T9,f9⟩
 by_cases hlt:i<n
 ·rw[if_pos hlt]
  obtain⟨p1,p2,p3,p4⟩:=T9.s1
  refine⟨_,p1,_,rfl,_,p2,_,rfl,_,p3,_,rfl,_,p4,?_⟩
  rw[w64 (n:=w / 8+i) (by omega)]
  refine HC.mono (eX T9.hp.cd.sp.mem T9.ok.mem (by omega)) ?_
  rintro _ H10 ⟨rfl,rfl⟩
  have hui:x.sp.mem.used (w / 8+i):=by have:=hu i.toNat (by omega);rw[show((i.toNat:Nat):Int)=i by omega]at this;exact this
  have sm:=aZ.sets ((x.sp.mem.row (w / 8) n.toNat).take i.toNat) s'.mem a
  have hus':s'.mem.used (w / 8+i):=by
   obtain⟨k1,k2,k3⟩:=hui
   by_cases hj:((w / 8+i) / 64).toNat=(a / 64).toNat
   ·have ht:(x.sp.mem.seg (a / 64).toNat).taken≠0:=by rw[<-hj];exact k2.2.2
    obtain⟨o1,o2,o3,o4,o5,o6⟩:=gr.old ht
    rw[hj,o3]at k3
    exact⟨k1,⟨k2.1,by rw[gr.limit];exact k2.2.1,by rw[hj,o6];exact ht⟩,by rw[hj,gr.new.2.2.2];omega⟩
   ·have ho':=gr.others _ hj
    exact⟨k1,⟨k2.1,by rw[gr.limit];exact k2.2.1,by rw[ho'];exact k2.2.2⟩,by rw[ho'];exact k3⟩
  have hlt':(((x.sp.mem.row (w / 8) n.toNat).take i.toNat).length:Int)=i:=by rw[List.length_take,Mem.row_len];omega
  have hgi:(s'.mem.sets a ((x.sp.mem.row (w / 8) n.toNat).take i.toNat)).get (w / 8+i)=x.sp.mem.get (w / 8+i):=by
   rw[Mem.sets_get _ _ (by omega) a0 (λj hj=>?_),if_neg (by rw[hlt'];have:=gr.not_in hui;omega),gr.get hui]
   have hj:(j:Int)<i:=by omega
   have e1:(a+j) / 64=a / 64:=by omega
   have e2:(a+j) % 64=a % 64+j:=by omega
   exact⟨by omega,by rw[e1];exact⟨by omega,by rw[gr.limit];exact a1,gr.new.1⟩,by rw[e1,e2,gr.new.2.2.2];omega⟩
  rw[if_pos (sm.used.2 hus'),hgi]
  refine⟨_,_,rfl,_,p1,_,rfl,_,p2,_,rfl,_,p3,_,rfl,_,p4,?_⟩
  rw[w64 (n:=a+i) (by omega),w64 (n:=i+1) (by omega)]
  refine HC.mono (ey T9.hp.cd.sp.mem T9.ok.mem (by omega)) ?_
  rintro _ H11 ⟨rfl,hm11,f11⟩
  have f11':Fr (spB b) H H11:=f9.trans (f11.mono (λj hj _=>by simp at hj;simp[spB];omega))
  have et:(x.sp.mem.row (w / 8) n.toNat).take (i+1).toNat=(x.sp.mem.row (w / 8) n.toNat).take i.toNat++[x.sp.mem.get (w / 8+i)]:=by
   rw[show(i+1).toNat=i.toNat+1 by omega,Mem.row_take _ _ (by omega),show((i.toNat:Nat):Int)=i by omega]
  have es:s'.mem.sets a ((x.sp.mem.row (w / 8) n.toNat).take (i+1).toNat)=(if(s'.mem.sets a ((x.sp.mem.row (w / 8) n.toNat).take i.toNat)).used (a+i)then(s'.mem.sets a ((x.sp.mem.row (w / 8) n.toNat).take i.toNat)).set (a+i) (x.sp.mem.get (w / 8+i))else s'.mem.sets a ((x.sp.mem.row (w / 8) n.toNat).take i.toNat)):=by
   rw[et,Mem.sets_snoc,hlt']
  have hmm:cx H11 b.m b.s (s'.mem.sets a ((x.sp.mem.row (w / 8) n.toNat).take (i+1).toNat)):=by rw[es];exact hm11
  refine⟨_,rfl,⟨by omega,?_,f11'⟩,by show(n-(i+1)).toNat< (n-i).toNat;omega⟩
  exact T9.withMem (m:=s'.mem.sets a ((x.sp.mem.row (w / 8) n.toNat).take (i+1).toNat)) f11 (λj hj=>by simp at hj;omega) hmm (ok2.sets a (λv hv=>hws v (List.mem_of_mem_take hv)))
 ·rw[if_neg hlt]
  have hie:i.toNat=n.toNat:=by omega
  rw[hie,List.take_of_length_le (by rw[Mem.row_len];omega)]at T9
  refine HC.mono (gE (by omega) (by omega)) ?_
  rintro _ H12 ⟨rfl,e12'⟩
  rw[if_neg (by decide),if_pos (by omega)]
  have T12:=T9.ext e12'
  obtain⟨p1,p2,p3,p4⟩:=T12.s1
  refine⟨_,_,rfl,_,p1,_,rfl,_,p2,_,rfl,_,p3,_,rfl,_,p4,?_⟩
  refine HC.mono (ey T12.hp.cd.sp.mem T12.ok.mem (by omega)) ?_
  rintro _ H13 ⟨rfl,hm13,f13⟩
  refine⟨_,rfl,?_⟩
  have hu0:x.sp.mem.used (w / 8):=by have:=hu 0 (by omega);simpa using this
  have sm:=aZ.sets (x.sp.mem.row (w / 8) n.toNat) s'.mem a
  have hus:s'.mem.used (w / 8):=by
   obtain⟨k1,k2,k3⟩:=hu0
   by_cases hj:(w / 8 / 64).toNat=(a / 64).toNat
   ·have ht:(x.sp.mem.seg (a / 64).toNat).taken≠0:=by rw[<-hj];exact k2.2.2
    obtain⟨o1,o2,o3,o4,o5,o6⟩:=gr.old ht
    rw[hj,o3]at k3
    exact⟨k1,⟨k2.1,by rw[gr.limit];exact k2.2.1,by rw[hj,o6];exact ht⟩,by rw[hj,gr.new.2.2.2];omega⟩
   ·have ho':=gr.others _ hj
    exact⟨k1,⟨k2.1,by rw[gr.limit];exact k2.2.1,by rw[ho'];exact k2.2.2⟩,by rw[ho'];exact k3⟩
  rw[if_pos (sm.used.2 hus)]at hm13
  have f13':Fr (spB b) H H13:=(f9.trans e12'.fr).trans (f13.mono (λj hj _=>by simp at hj;simp[spB];omega))
  have ok3:=ok2.sets a hws
  have ok4:SpOK {s' with mem:=(s'.mem.sets a (x.sp.mem.row (w / 8) n.toNat)).set (w / 8) (a*8+6)}:=ok3.withMem (ok3.mem.set (w / 8) ⟨by omega,by omega⟩) (λk h=>Mem.set_has.2 h) (λk=>⟨((aZ.set _ _ _).seg k).1,((aZ.set _ _ _).seg k).2.1⟩)
  have T13:=T12.withMem f13 (λj hj=>by simp at hj;omega) hm13 ok4
  refine HC.mono (eN hw) ?_
  rintro _ H14 ⟨rfl,e14'⟩
  refine⟨_,rfl,?_⟩
  refine HC.mono (gE (by omega) (by omega)) ?_
  rintro _ H15 ⟨rfl,e15'⟩
  rw[if_neg (λhh=>hh ho.1.1),if_pos (by omega)]
  have e45:=e14'.trans e15'
  exact⟨_,_,rfl,hR _ _ ⟨rfl,T13.ext e45,f13'.trans e45.fr⟩⟩
