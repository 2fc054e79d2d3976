/-
 A trace (package trace): its place on the heap; what is old, what has moved. Proves nothing of any one statement.
-/
import Derived.Test.YtojbbgcjiaphjaaGreatCons
set_option linter.unusedVariables false
set_option linter.unusedSimpArgs false
namespace Go.Proofs.YtojbbgcjiaphjaaGreat
open Go

structure Tr where
 tgt:Int
 old:Nat->Bool
 frm:List (Int×Value)
 seen:List (Int×Value)
 cards:List (Int×Int)
 over:Bool
structure TB where
 t:Nat
 f:Nat
 s:Nat
 cB:zW
 cN:Nat
 cC:Nat
def TB.all(q:TB):List Nat:=q.t::q.f::q.s::blks q.cB
def mi(l:List (Int×Int)):List Value:=l.flatMap λc=> [.int .i64 c.1,.int .i64 c.2]
structure TrAt (H:zV) (b:Blk) (q:TB) (t:Tr):Prop where
 tr: ∃cs:Array Value,H[q.t]?=some (.cells cs 144 (0,0))/\cs.size=1030/\cs[0]?=some (.pointer (some ⟨b.h,0,none⟩))/\cs[1]?=some (.int .i64 t.tgt)/\(∀k,k<1024->cs[2+k]?=some (.int .i64 (if t.old k then 1 else 0)))/\cs[1026]?=some (.map (some q.f))/\cs[1027]?=some (.map (some q.s))/\cs[1028]?=some (.slice q.cB q.cN q.cC)/\cs[1029]?=some (.int .i64 (if t.over then 1 else 0))
 frm: ∃(es:Array MapEntry) (cl:Nat),H[q.f]?=some (.map es cl)/\Ents (bT .i64) es.toList t.frm
 seen: ∃(es:Array MapEntry) (cl:Nat),H[q.s]?=some (.map es cl)/\Ents (bT .i64) es.toList t.seen
 cards:fY H q.cB (mi t.cards)
 cB: ∀a,q.cB=some a->a.block<H.size
 clen:q.cN=t.cards.length/\q.cN<=4096
 ne:q.t≠q.f/\q.t≠q.s/\q.f≠q.s/\ ∀i∈blks q.cB,i≠q.t/\i≠q.f/\i≠q.s
theorem TrAt.lt{H:zV}{b:Blk}{q:TB}{t:Tr}(h:TrAt H b q t): ∀i,i∈q.all->i<H.size:=by
 intro i hi
 obtain⟨cs,h1,_⟩:=h.tr
 obtain⟨es,cl,h2,_⟩:=h.frm
 obtain⟨es',cl',h3,_⟩:=h.seen
 have l1:=aO h1
 have l2:=aO h2
 have l3:=aO h3
 simp only[TB.all,List.mem_cons]at hi
 rcases hi with rfl | rfl | rfl | hi
 ·exact l1
 ·exact l2
 ·exact l3
 ·cases hc:q.cB with
  | none=>rw[hc]at hi;simp at hi
  | some a=>rw[hc]at hi;simp at hi;rw[hi];exact h.cB a hc
theorem TrAt.keep{S:List Nat}{H H':zV}{b:Blk}{q:TB}{t:Tr}(h:TrAt H b q t)(f:Fr S H H')(hS: ∀i,i∈S->i ∉ q.all):TrAt H' b q t:=by
 obtain⟨cs,h1,hr⟩:=h.tr
 obtain⟨es,cl,h2,hr2⟩:=h.frm
 obtain⟨es',cl',h3,hr3⟩:=h.seen
 refine⟨⟨cs,f.get (λhi=>hS _ hi (by simp[TB.all])) h1,hr⟩,⟨es,cl,f.get (λhi=>hS _ hi (by simp[TB.all])) h2,hr2⟩,⟨es',cl',f.get (λhi=>hS _ hi (by simp[TB.all])) h3,hr3⟩,?_,λa ha=>Nat.lt_of_lt_of_le (h.cB a ha) f.size,h.clen,h.ne⟩
 have hc:=h.cards
 cases hb:q.cB with
 | none=>rw[hb]at hc;exact hc
 | some a=>
  rw[hb]at hc
  exact f.rowAt (λhi=>hS _ hi (by simp[TB.all,hb])) hc
theorem TrAt.ext{H H':zV}{b:Blk}{q:TB}{t:Tr}(h:TrAt H b q t)(e:Ext H H'):TrAt H' b q t:=h.keep (S:=[]) e.fr (by simp)
theorem TrAt.hPtr{H:zV}{b:Blk}{q:TB}{t:Tr}(h:TrAt H b q t):hat H ⟨q.t,0,none⟩=some (.pointer (some ⟨b.h,0,none⟩)):=by
 obtain⟨cs,h1,_,h0,_⟩:=h.tr
 rw[aI h1,h0]
structure Tc (H:zV) (b:Blk) (x:Hp) (q:TB) (t:Tr):Prop where
 hp:HpAt H b x
 ok:SpOK x.sp
 tr:TrAt H b q t
 apart: ∀i,i∈q.all->i ∉ b.all
theorem Tc.ext{H H':zV}{b:Blk}{x:Hp}{q:TB}{t:Tr}(h:Tc H b x q t)(e:Ext H H'):Tc H' b x q t:=⟨h.hp.ext e,h.ok,h.tr.ext e,h.apart⟩
theorem Tc.keep{S:List Nat}{H H':zV}{b:Blk}{x:Hp}{q:TB}{t:Tr}(h:Tc H b x q t)(f:Fr S H H')(h1: ∀i,i∈S->i ∉ b.all)(h2: ∀i,i∈S->i ∉ q.all):Tc H' b x q t:=⟨h.hp.keep f h1,h.ok,h.tr.keep f h2,h.apart⟩
theorem Tc.step{S:List Nat}{H H':zV}{b:Blk}{x x':Hp}{q:TB}{t:Tr}(h:Tc H b x q t)(f:Fr S H H')(hS: ∀i,i∈S->i∈b.all)(hp:HpAt H' b x')(ok:SpOK x'.sp):Tc H' b x' q t:=
 ⟨hp,ok,h.tr.keep f (λi hi hq=>h.apart i hq (hS i hi)),h.apart⟩
theorem Tc.withMem{S:List Nat}{H H':zV}{b:Blk}{x:Hp}{q:TB}{t:Tr}{m:Mem}(h:Tc H b x q t)(f:Fr S H H')(hS: ∀i,i∈S->i=b.m\/i=b.s)(hm:cK H' b.m b.s m)(ok:SpOK {x.sp with mem:=m}):Tc H' b {x with sp:={x.sp with mem:=m}} q t:=
 h.step f (λi hi=>by rcases hS i hi with rfl | rfl<;>simp[Blk.all]) (h.hp.withMem f hS hm) ok
def eV(old:Nat->Bool)(w:Int):Prop:=hG w/\w % 8≠6/\old (w / 8 / 64).toNat=true
instance (old:Nat->Bool) (w:Int):Decidable (eV old w):=by unfold eV;infer_instance
def Mem.fwd(m:Mem)(w:Int):Option Int:=if m.used (w / 8)/\hG (m.get (w / 8))/\m.get (w / 8) % 8=6 then some (m.get (w / 8) / 8*8+w % 8)else none

def Mem.row(m:Mem)(a:Int)(n:Nat):List Int:=(List.range n).map λi:Nat=>m.get (a+(i:Int))
theorem Mem.row_len(m:Mem)(a:Int)(n:Nat):(m.row a n).length=n:=by simp[Mem.row]
theorem Mem.row_get(m:Mem)(a:Int){n i:Nat}(h:i<n):(m.row a n)[i]'(by rw[Mem.row_len];exact h)=m.get (a+i):=by simp[Mem.row]
def Mem.kindOf(m:Mem)(w:Int):Int:=(m.seg (w / 8 / 64).toNat).kind
def Sp.moved(m:Mem)(w:Int)(r:Sp×Int×Int):Sp:={r.1 with mem:=(r.1.mem.sets r.2.1 (m.row (w / 8) (m.sizeOf w).toNat)).set (w / 8) (r.2.1*8+6)}
def Sp.visit(s:Sp)(old:Nat->Bool)(T w:Int):Sp×Int:=
 if ¬eV old w then(s,w)
 else match s.mem.fwd w with
  | some v=>(s,v)
  | none=>
   if s.mem.sizeOf w=0 then(s,w)
   else if(s.alloc T (s.mem.kindOf w) (s.mem.sizeOf w)).2.2=0 then
    (Sp.moved s.mem w (s.alloc T (s.mem.kindOf w) (s.mem.sizeOf w)),(s.alloc T (s.mem.kindOf w) (s.mem.sizeOf w)).2.1*8+w % 8)
   else(s,w)
theorem Sp.visit_no{s:Sp}{old:Nat->Bool}{T w:Int}(h: ¬eV old w):s.visit old T w=(s,w):=by unfold Sp.visit;rw[if_pos h]
theorem Sp.visit_fwd{s:Sp}{old:Nat->Bool}{T w v:Int}(h:eV old w)(hf:s.mem.fwd w=some v):s.visit old T w=(s,v):=by unfold Sp.visit;rw[if_neg (λhh=>hh h),hf]
theorem Sp.visit_go{s:Sp}{old:Nat->Bool}{T w:Int}(h:eV old w)(hf:s.mem.fwd w=none)(h0:s.mem.sizeOf w≠0)(ha:(s.alloc T (s.mem.kindOf w) (s.mem.sizeOf w)).2.2=0):
  s.visit old T w=(Sp.moved s.mem w (s.alloc T (s.mem.kindOf w) (s.mem.sizeOf w)),(s.alloc T (s.mem.kindOf w) (s.mem.sizeOf w)).2.1*8+w % 8):=by unfold Sp.visit;rw[if_neg (λhh=>hh h),hf];simp only[];rw[if_neg h0,if_pos ha]

theorem Mem.size_used{m:Mem}(ok:bO m)(he:m.Even){w:Int}(hw:aP w)(h:m.sizeOf w≠0):0<m.sizeOf w/\m.sizeOf w<=63/\(∀i:Nat,(i:Int)<m.sizeOf w->m.used (w / 8+i))/\w / 8 % 64+m.sizeOf w<=64/\0<=w / 8/\m.has (w / 8 / 64):=by
 unfold Mem.sizeOf at*
 have w0:0<=w / 8:=by have:=hw.1;omega
 by_cases hp:m.isPair w
 ·rw[if_pos hp]at h⊢
  have hd:m.has (w / 8 / 64)/\(m.seg (w / 8 / 64).toNat).kind<=1/\w / 8 % 64< (m.seg (w / 8 / 64).toNat).n:=by
   rcases hp.1 with q | q
   ·exact⟨q.2.2.1,by rw[q.2.2.2.1];decide,q.2.2.2.2⟩
   ·exact⟨q.2.2.1,by rw[q.2.2.2.1];decide,q.2.2.2.2⟩
  have hev:=he _ hd.2.1
  have h2:=hp.2
  have hn:=(ok.seg (w / 8 / 64).toNat).n
  refine⟨by decide,by decide,λi hi=>?_,by omega,w0,hd.1⟩
  have e1:(w / 8+i) / 64=w / 8 / 64:=by omega
  have e2:(w / 8+i) % 64=w / 8 % 64+i:=by omega
  exact⟨by omega,by rw[e1];exact hd.1,by rw[e1,e2];omega⟩
 ·rw[if_neg hp]at h⊢
  by_cases ho:m.isObj w
  ·rw[if_pos ho]at h⊢
   have hl:=ho.len_lt
   have hle:m.len w=hn (m.get (w / 8)):=by unfold Mem.len;rw[if_pos ho]
   have hlt:=ho.2.2
   have hn64:=(ok.seg (w / 8 / 64).toNat).n
   have hhas:=ho.1.2.2.1
   rw[hle]
   refine⟨by omega,by omega,λi hi=>?_,by omega,w0,hhas⟩
   have e1:(w / 8+i) / 64=w / 8 / 64:=by omega
   have e2:(w / 8+i) % 64=w / 8 % 64+i:=by omega
   exact⟨by omega,by rw[e1];exact hhas,by rw[e1,e2];omega⟩
  ·rw[if_neg ho]at h;exact absurd rfl h
theorem Grown.not_in{m m':Mem}{a g k n:Int}(gr:Grown m m' a n g k){x:Int}(hx:m.used x): ¬(a<=x/\x<a+n):=λh=>by
 obtain⟨a0,a1,a2⟩:=gr.addr
 have e1:x / 64=a / 64:=by omega
 by_cases h0:(m.seg (a / 64).toNat).taken=0
 ·have:=hx.2.1.2.2;rw[e1]at this;exact this h0
 ·have h3:=(gr.old h0).2.2.1
  have h4:=hx.2.2
  rw[e1]at h4
  omega
theorem Grown.get{m m':Mem}{a g k n:Int}(gr:Grown m m' a n g k){x:Int}(hx:m.used x):m'.get x=m.get x:=by
 unfold Mem.get
 by_cases hj:(x / 64).toNat=(a / 64).toNat
 ·have ht:(m.seg (a / 64).toNat).taken≠0:=by rw[<-hj];exact hx.2.1.2.2
  rw[hj,(gr.old ht).2.2.2.1]
 ·rw[gr.others _ hj]

