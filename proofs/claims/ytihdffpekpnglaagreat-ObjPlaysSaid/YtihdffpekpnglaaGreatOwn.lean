/-
 Heaps that change at known blocks only; slices of a block of their own. Proves nothing of any one program.
-/
import Derived.Test.YtihdffpekpnglaaGreatHeap
import Derived.Laws.Append
set_option linter.unusedVariables false
set_option linter.unusedSimpArgs false
namespace Go.Proofs.YtihdffpekpnglaaGreat
open Go

structure Fr (S:List Nat) (H H':zW):Prop where
 size:H.size<=H'.size
 old: ∀i,i<H.size->i ∉ S->H'[i]?=H[i]?
theorem Fr.refl(S:List Nat)(H:zW):Fr S H H:=⟨Nat.le_refl _,λ_ _ _=>rfl⟩
theorem Fr.trans'{S S' S'':List Nat}{a b c:zW}(h:Fr S a b)(k:Fr S' b c)(h1: ∀i,i∈S->i<a.size->i∈S'')(h2: ∀i,i∈S'->i<a.size->i∈S''):Fr S'' a c:=
 ⟨Nat.le_trans h.size k.size,λi hi hn=>(k.old i (Nat.lt_of_lt_of_le hi h.size) (λhm=>hn (h2 i hm hi))).trans (h.old i hi (λhm=>hn (h1 i hm hi)))⟩
theorem Fr.trans{S:List Nat}{a b c:zW}(h:Fr S a b)(k:Fr S b c):Fr S a c:=h.trans' k (λ_ h _=>h) (λ_ h _=>h)
theorem Fr.mono{S S':List Nat}{a b:zW}(h:Fr S a b)(hs: ∀i,i∈S->i<a.size->i∈S'):Fr S' a b:=
 ⟨h.size,λi hi hn=>h.old i hi λhm=>hn (hs i hm hi)⟩
theorem Ext.fr{S:List Nat}{a b:zW}(h:Ext a b):Fr S a b:=⟨h.size,λi hi _=>h.old i hi⟩
theorem Fr.ext{S:List Nat}{a b:zW}(h:Fr S a b)(hs: ∀i,i∈S->a.size<=i):Ext a b:=
 ⟨h.size,λi hi=>h.old i hi λhm=>by have:=hs i hm;omega⟩
theorem Ext.fr_trans{S:List Nat}{a b c:zW}(h:Ext a b)(k:Fr S b c)(hs: ∀i,i∈S->a.size<=i):Ext a c:=
 ⟨Nat.le_trans h.size k.size,λi hi=>(k.old i (Nat.lt_of_lt_of_le hi h.size) λhm=>by have:=hs i hm;omega).trans (h.old i hi)⟩
theorem Fr.get{S:List Nat}{H H':zW}(h:Fr S H H'){b:Nat}{o:Obj}(hn:b ∉ S)(hb:H[b]?=some o):H'[b]?=some o:=by
 rw[h.old b (bI hb) hn];exact hb
theorem Fr.set{H:zW}{b:Nat}{o:Obj}:Fr [b] H (iu H b o):=
 ⟨by simp,λi _ hi=>by rw[iD (by simp at hi;omega)]⟩
theorem Fr.hat{S:List Nat}{H H':zW}(h:Fr S H H'){a:Addr}{v:Value}(hn:a.block ∉ S)(hb:hat H a=some v):hat H' a=some v:=by
 unfold Go.Proofs.YtihdffpekpnglaaGreat.hat at*
 cases hx:H[a.block]? with
 | none=>simp[hx]at hb
 | some o=>rw[h.get hn hx];rw[hx]at hb;exact hb
theorem Fr.rowAt{S:List Nat}{H H':zW}(h:Fr S H H'){a:Addr}(hn:a.block ∉ S): ∀{vs:List Value} {i:Nat},aG H a i vs->aG H' a i vs
 | [],_,_=>trivial
 | _::_,_,hr=>⟨h.hat (by rw[show(a.add _).block=a.block by unfold Addr.add;split<;>rfl];exact hn) hr.1,Fr.rowAt h hn hr.2⟩

def Own(H:zW)(T:TypeId)(sz:Nat)(p:zY)(n c:Nat)(xs:List Value):Prop:=
 match p with
 | none=>n=0/\c=0/\xs=[]
 | some a=>a=⟨a.block,0,none⟩/\ ∃cs:Array Value,H[a.block]?=some (.cells cs T (0,0))/\cs.size=c*sz/\n<=c/\xs.length=n*sz/\ ∀j,j<n*sz->cs[j]?=xs[j]?
def blks(p:zY):List Nat:=match p with | none=> [] | some a=> [a.block]
@[simp] theorem blks_none:blks none=[]:=rfl
@[simp] theorem blks_some {a:Addr}:blks (some a)=[a.block]:=rfl

theorem gH{H:zW}{T:TypeId}{sz:Nat}:Own H T sz none 0 0 []:=⟨rfl,rfl,rfl⟩
theorem Own.len{H:zW}{T:TypeId}{sz n c:Nat}{p:zY}{xs:List Value}(h:Own H T sz p n c xs):xs.length=n*sz:=by
 cases p with
 | none=>obtain⟨rfl,rfl,rfl⟩:=h;simp
 | some a=>obtain⟨_,cs,_,_,_,h,_⟩:=h;exact h
theorem Own.le{H:zW}{T:TypeId}{sz n c:Nat}{p:zY}{xs:List Value}(h:Own H T sz p n c xs):n<=c:=by
 cases p with
 | none=>obtain⟨rfl,rfl,rfl⟩:=h;exact Nat.le_refl _
 | some a=>obtain⟨_,cs,_,_,h,_,_⟩:=h;exact h
theorem Own.keep{S:List Nat}{H H':zW}{T:TypeId}{sz n c:Nat}{p:zY}{xs:List Value}(h:Own H T sz p n c xs)(k:Fr S H H')(hd: ∀b,b∈blks p->b ∉ S):Own H' T sz p n c xs:=by
 cases p with
 | none=>exact h
 | some a=>obtain⟨ha,cs,hb,hr⟩:=h;exact⟨ha,cs,k.get (hd _ (by simp)) hb,hr⟩
theorem Own.ext{H H':zW}{T:TypeId}{sz n c:Nat}{p:zY}{xs:List Value}(h:Own H T sz p n c xs)(k:Ext H H'):Own H' T sz p n c xs:=
 h.keep (S:=[]) k.fr (λ_ _=>by simp)
theorem Own.lt{H:zW}{T:TypeId}{sz n c:Nat}{p:zY}{xs:List Value}(h:Own H T sz p n c xs): ∀b,b∈blks p->b<H.size:=by
 cases p with
 | none=>intro b hb;simp at hb
 | some a=>obtain⟨_,cs,hb,_⟩:=h;intro b hm;simp at hm;subst hm;exact bI hb
theorem Own.at{H:zW}{T:TypeId}{sz n c:Nat}{p:zY}{xs:List Value}(h:Own H T sz p n c xs){j:Nat}{v:Value}(hv:xs[j]?=some v): ∃a,p=some a/\hat H (a.add j)=some v:=by
 have hj:j<xs.length:=by
  rcases Nat.lt_or_ge j xs.length with h | h
  ·exact h
  ·simp[List.getElem?_eq_none h]at hv
 cases p with
 | none=>obtain⟨rfl,rfl,rfl⟩:=h;simp at hj
 | some a=>
  obtain⟨ha,cs,hb,_,_,hl,hc⟩:=h
  refine⟨a,rfl,?_⟩
  rw[ha,addr_add_mk,aU hb,Nat.zero_add,hc j (by omega),hv]
theorem iO{H:zW}{a:Addr}: ∀{vs:List Value} {i:Nat},(∀j v,vs[j]?=some v->hat H (a.add (i+j))=some v)->aG H a i vs
 | [],_,_=>trivial
 | v::vs,i,h=>⟨by have:=h 0 v rfl;simpa using this,iO λj u hu=>by have:=h (j+1) u (by simpa using hu);rw[show i+1+j=i+(j+1)by omega];exact this⟩
theorem Own.src{H:zW}{T:TypeId}{sz n c:Nat}{p:zY}{xs:List Value}(h:Own H T sz p n c xs):cY H p xs:=by
 cases p with
 | none=>obtain⟨rfl,rfl,rfl⟩:=h;rfl
 | some a=>
  refine iO λj v hv=>?_
  obtain⟨a',he,hh⟩:=h.at hv
  cases he
  rw[Nat.zero_add];exact hh

theorem jK{z:Array Value}{n:Nat}:(Builtin.zeroCells z n).size=n*z.size:=by
 unfold Builtin.zeroCells;simp

theorem kN{z:Array Value}{n k j:Nat}(hk:k<n)(hj:j<z.size):(Builtin.zeroCells z n)[k*z.size+j]?=z[j]?:=by
 have h1:(k+1)*z.size<=n*z.size:=Nat.mul_le_mul_right _ hk
 rw[Nat.add_mul,Nat.one_mul]at h1
 unfold Builtin.zeroCells
 rw[Array.getElem?_map,Array.getElem?_range]
 rw[if_pos (by omega)]
 simp only[Option.map_some]
 rw[show(k*z.size+j) % z.size=j by rw[Nat.add_comm,Nat.add_mul_mod_self_right,Nat.mod_eq_of_lt hj]]
 rw[getElem!_pos z j hj,Array.getElem?_eq_getElem hj]

theorem cZ{H:zW}{T:TypeId}{sz bytes n c m:Nat}{p q:zY}{zero xs ys:List Value}{K:zY->Nat->zW->Prop}
  (h:Own H T sz p n c xs) (hq:cY H q ys) (hl:ys.length=m*sz) (hone:gF ys=true) (hz:zero.length=sz) (hfit:(n+m)*bytes<=140737488355328)
  (hK: ∀p' c' H',Own H' T sz p' (n+m) c' (xs++ys)->Fr (blks p) H H'->(∀b,b∈blks p'->b∈blks p\/H.size<=b)->K p' c' H'):
  bW sz T bytes zero p n c q m H K:=by
 refine⟨ys,hq,λ_=>hl,hone,λhle=>?_,λhlt=>?_⟩
 ·cases p with
  | none=>
   obtain⟨rfl,rfl,rfl⟩:=h
   have hm:m=0:=by omega
   subst hm
   have hy:ys=[]:=List.length_eq_zero_iff.1 (by omega)
   subst hy
   exact hK none 0 H ⟨rfl,rfl,rfl⟩ (Fr.refl _ _) (λb hb=> .inl hb)
  | some a=>
   obtain⟨ha,cs,hb,hs,hn,hxl,hc⟩:=h
   have hms:n*sz+m*sz<=cs.size:=by rw[hs,<-Nat.add_mul];exact Nat.mul_le_mul_right _ hle
   have e0:a.add (n*sz)=⟨a.block,n*sz,none⟩:=by rw[ha];simp
   rw[onPtr_some,e0]
   refine⟨by rw[hl];exact eJ hb _ _ _ (by omega),?_⟩
   rw[gj ys H cs (n*sz) 0 hb,Nat.add_zero]
   refine hK (some a) c _ ⟨ha,splice cs (n*sz) ys,dU (bI hb),by rw[splice_size];exact hs,hle,by rw[List.length_append,hxl,hl,Nat.add_mul],λj hj=>?_⟩ Fr.set (λb hb=> .inl hb)
   rw[Nat.add_mul]at hj
   rcases Nat.lt_or_ge j (n*sz)with h1 | h1
   ·rw[eD _ _ _ _ h1,hc j h1,List.getElem?_append_left (by omega)]
   ·have hj2:j=n*sz+(j-n*sz):=by omega
    rw[hj2,fT cs ys (n*sz) (j-n*sz) (by omega) (by omega),List.getElem?_append_right (by omega),hxl]
    congr 1;omega
 ·have hx:=h.len
  refine⟨xs,h.src,λ_=>hx,growslice_fits hlt hfit,λc' b H' hc' hb hH'=>?_⟩
  refine hK _ c' H' ⟨rfl,_,aO hb hH',?_,hc',by rw[List.length_append,hx,hl,Nat.add_mul],λj hj=>?_⟩ ((Ext.push' hH').fr) (λb' hb'=> .inr (by simp at hb';omega))
  ·rw[Array.size_append,jK]
   simp only[List.size_toArray,List.length_append,hx,hl,hz]
   rw[<-Nat.add_mul,<-Nat.add_mul];congr 1;omega
  ·rw[Nat.add_mul]at hj
   rw[Array.getElem?_append_left (by simp only[List.size_toArray,List.length_append,hx,hl];omega)]
   simp
