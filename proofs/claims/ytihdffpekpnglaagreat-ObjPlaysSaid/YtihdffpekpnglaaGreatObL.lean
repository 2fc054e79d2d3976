/-
 A string as characters, for seats without texts' folding. Proves nothing of any one statement.
-/
import Derived.Test.YtihdffpekpnglaaGreatRef02M
set_option linter.unusedVariables false
set_option linter.unusedSimpArgs false
namespace Go.Proofs.YtihdffpekpnglaaGreat
open Go

def i32s(l:List Int):List Value:=l.map (Value.int .i32)
theorem ni(s:ByteArray): ∀(k i:Nat) (acc:Array Value),(Conv.runesFrom s k i acc).toList=acc.toList++(runesFrom s k i).map (Value.int .i32)
 | 0,_,acc=>by simp[Conv.runesFrom,runesFrom]
 | k+1,i,acc=>by
  unfold Conv.runesFrom runesFrom
  by_cases h:i<s.size
  ·rw[if_pos h,if_pos h]
   show(Conv.runesFrom s k (i+(Utf8.decode s i).2) (acc.push (.int .i32 (Int.ofNat (Utf8.decode s i).1)))).toList=_
   rw[ni s k];simp
  ·rw[if_neg h,if_neg h];simp
theorem nR{k:IntKind}: ∀{us vs:List Int},us.map (Value.int k)=vs.map (Value.int k)->us=vs
 | [],[],_=>rfl
 | [],b::vs,h=>by simp at h
 | a::us,[],h=>by simp at h
 | a::us,b::vs,h=>by
  simp only[List.map_cons,List.cons.injEq,Value.int.injEq,true_and]at h
  rw[h.1,nR h.2]
theorem po(s:ByteArray):(gi s).length<=s.size:=by have:=kQ s (s.size-0) 0;show(runesFrom s (s.size-0) 0).length<=s.size;omega
theorem qj{e:TypeId}{s:ByteArray}{H:zW}{K:zY->Nat->Nat->zW->Prop}(hl:s.size<=70368744177664)
  (hk: ∀(c b:Nat) H',b=H.size->Own H' e 1 (some ⟨b,0,none⟩) (gi s).length c (i32s (gi s))->Ext H H'->K (some ⟨b,0,none⟩) (gi s).length c H'):mJ e s H K:=by
 intro rs hrs
 have h1:=ni s s.size 0 #[]
 rw[hrs]at h1
 have hrr:rs=gi s:=by
  have h2:rs.map (Value.int .i32)=(runesFrom s s.size 0).map (Value.int .i32):=by simpa using h1
  have:=nR h2
  rw[this];rfl
 subst hrr
 have:=po s
 refine⟨by omega,λc b H' hc hb hH'=>hk c b H' hb ?_ (Ext.push' hH')⟩
 refine⟨rfl,_,aO hb hH',by simp;omega,hc,by simp[i32s],λj hj=>?_⟩
 rw[Array.getElem?_append_left (by simp;omega)];simp[i32s]

def Bits(a:List Int):Prop:= ∀b∈a,b=0\/b=1
def Canon(a:List Int):Prop:=a≠[]->(2:Int) ^ (a.length-1)<=eC a
def kV(a b:List Int):Nat->Bool
 | 0=>false
 | n+1=>if a.getD n 0=b.getD n 0 then kV a b n else decide (a.getD n 0<b.getD n 0)
def jY(a b:List Int):Bool:=if a.length=b.length then kV a b a.length else decide (a.length<b.length)
theorem nj{a b:List Int}(ha:Bits a)(hb:Bits b): ∀n,n<=a.length->n<=b.length->kV a b n=decide (eC (a.take n)<eC (b.take n))
 | 0,_,_=>by simp[kV,eC]
 | n+1,h1,h2=>by
  have ih:=nj ha hb n (by omega) (by omega)
  have l1:n<a.length:=by omega
  have l2:n<b.length:=by omega
  have e1:a.getD n 0=a[n]:=by rw[List.getD,List.getElem?_eq_getElem l1];rfl
  have e2:b.getD n 0=b[n]:=by rw[List.getD,List.getElem?_eq_getElem l2];rfl
  have b1:=iJ (a.take n)
  have b2:=iJ (b.take n)
  rw[List.length_take,Nat.min_eq_left (by omega)]at b1 b2
  unfold kV
  rw[e1,e2,List.take_succ_eq_append_getElem l1,List.take_succ_eq_append_getElem l2,iU,iU,List.length_take,List.length_take,Nat.min_eq_left (by omega),Nat.min_eq_left (by omega),ih]
  have v1:=ha _ (List.getElem_mem l1)
  have v2:=hb _ (List.getElem_mem l2)
  generalize a[n]=x at*
  generalize b[n]=y at*
  generalize (2:Int) ^ n=p at*
  rcases v1 with rfl | rfl<;>rcases v2 with rfl | rfl
  ·simp
  ·rw[if_neg (by decide),if_neg (by decide),if_pos rfl]
   rw[zQ (by decide:(0:Int)<1),zQ (by omega)]
  ·rw[if_neg (by decide),if_pos rfl,if_neg (by decide)]
   rw[zJ (by decide: ¬(1:Int)<0),zJ (by omega)]
  ·rw[if_pos rfl]
   exact decide_eq_decide.2 (by simp)
theorem qk{i j:Nat}(h:i<=j):(2:Int) ^ i<=2 ^ j:=by
 have:=Nat.pow_le_pow_right (n:=2) (by decide) h
 exact_mod_cast this
theorem nk{a b:List Int}(ha:Bits a)(hb:Bits b)(ca:Canon a)(cb:Canon b):jY a b=decide (eC a<eC b):=by
 unfold jY
 have b1:=iJ a
 have b2:=iJ b
 by_cases hl:a.length=b.length
 ·rw[if_pos hl,nj ha hb _ (Nat.le_refl _) (by omega),List.take_length,hl,List.take_length]
 ·rw[if_neg hl]
  refine decide_eq_decide.2 ⟨λh=>?_,λh=>?_⟩
  ·have hb0:b≠[]:=λe=>by rw[e]at h;simp at h
   have:=cb hb0
   have:=qk (show a.length<=b.length-1 by omega)
   omega
  ·rcases Nat.lt_or_ge a.length b.length with q | q
   ·exact q
   ·have ha0:a≠[]:=λe=>absurd (congrArg List.length e) (by simp only[List.length_nil];omega)
    have:=ca ha0
    have:=qk (show b.length<=a.length-1 by omega)
    omega
def valZ(neg:Bool)(a:List Int):Int:=if neg then-eC a else eC a
def cmpZ(x y:Int):Int:=if x<y then-1 else if y<x then 1 else 0
def cmpV(na:Bool)(a:List Int)(nb:Bool)(b:List Int):Int:=
 if na=nb then(if na then(if jY b a then-1 else if jY a b then 1 else 0)else(if jY a b then-1 else if jY b a then 1 else 0))else(if na then-1 else 1)
theorem nS{na nb:Bool}{a b:List Int}(ha:Bits a)(hb:Bits b)(ca:Canon a)(cb:Canon b)(za:na=true->a≠[])(zb:nb=true->b≠[]):cmpV na a nb b=cmpZ (valZ na a) (valZ nb b):=by
 have b1:=iJ a
 have b2:=iJ b
 have p1: ∀{l:List Int},Canon l->l≠[]->1<=eC l:=λ{l} c h=>by
  have:=c h
  have h2:(1:Int)<=2 ^ (l.length-1):=by
   have:=qk (Nat.zero_le (l.length-1))
   simpa using this
  omega
 unfold cmpV cmpZ valZ
 rw[nk ha hb ca cb,nk hb ha cb ca]
 cases na<;>cases nb
 ·simp
 ·have:=p1 cb (zb rfl)
  simp
  rw[if_neg (by omega),if_pos (by omega)]
 ·have:=p1 ca (za rfl)
  simp
  omega
 ·simp
def dF:List Int->Int
 | []=>0
 | m::r=>m+4294967296*dF r
theorem pp(m:Int)(r:List Int):bitsOf (m::r)=gm m++bitsOf r:=by simp[bitsOf]
theorem kW: ∀{ls:List Int},(∀x∈ls,fM x)->eC (bitsOf ls)=dF ls
 | [],_=>rfl
 | m::r,h=>by
  rw[pp,kl,ir (h m (by simp)),gX,kW (λx hx=>h x (by simp[hx]))]
  rfl
theorem me{ls:List Int}(h: ∀x∈ls,fM x):Bits (bitsOf ls):=by
 intro b hb
 unfold bitsOf at hb
 obtain⟨m,hm,hq⟩:=List.mem_flatMap.1 hb
 unfold gm at hq
 obtain⟨k,hk,rfl⟩:=List.mem_map.1 hq
 rw[qI (h m hm) (List.mem_range.1 hk)]
 omega
structure jr (ls:List Int) (k:Nat):Prop where
 le:k<=32*ls.length
 last: ∀h:k≠0,∃b,(bitsOf ls)[k-1]?=some b/\b≠0
 rest: ∀b∈(bitsOf ls).drop k,b=0
theorem jr.bits{ls:List Int}{k:Nat}(h:jr ls k)(hlm: ∀x∈ls,fM x):Bits ((bitsOf ls).take k):=λb hb=>me hlm b (List.mem_of_mem_take hb)
theorem jr.len{ls:List Int}{k:Nat}(h:jr ls k):((bitsOf ls).take k).length=k:=by rw[List.length_take,jj,Nat.min_eq_left h.le]
theorem jr.canon{ls:List Int}{k:Nat}(h:jr ls k)(hlm: ∀x∈ls,fM x):Canon ((bitsOf ls).take k):=by
 intro hne
 have hk:k≠0:=λe=>hne (by rw[e];rfl)
 obtain⟨b,hb,hb0⟩:=h.last hk
 obtain⟨hlt,hbe⟩:=List.getElem?_eq_some_iff.1 hb
 have h1:b=1:=(me hlm b (hbe▸List.getElem_mem hlt)).resolve_left hb0
 have e:(bitsOf ls).take k=(bitsOf ls).take (k-1)++[1]:=by
  have:=List.take_succ_eq_append_getElem hlt
  rw[show k-1+1=k by omega,hbe,h1]at this
  exact this
 have hle:=h.le
 have hb:=iJ ((bitsOf ls).take (k-1))
 rw[h.len,e,iU,if_pos rfl,List.length_take,jj,Nat.min_eq_left (by omega)]
 omega
theorem jr.val{ls:List Int}{k:Nat}(h:jr ls k)(hlm: ∀x∈ls,fM x):eC ((bitsOf ls).take k)=dF ls:=by
 rw[<-kW hlm]
 conv=>rhs;rw[<-List.take_append_drop k (bitsOf ls)]
 rw[kl,iB h.rest];simp
theorem jr.top{ls:List Int}{k:Nat}(h:jr ls k)(hlm: ∀x∈ls,fM x):top ls=(k+31) / 32:=by
 obtain⟨q1,q3,q5⟩:=h
 by_cases hk:k=0
 ·subst hk
  rcases Nat.eq_zero_or_pos (Go.Proofs.YtihdffpekpnglaaGreat.top ls)with h | h
  ·rw[h]
  exfalso
  have hle:=j1 ls
  have hnz:ls.getD (Go.Proofs.YtihdffpekpnglaaGreat.top ls-1) 0≠0:=jG ls ls.length (show Go.Proofs.YtihdffpekpnglaaGreat.top ls≠0 by omega)
  have hlt:Go.Proofs.YtihdffpekpnglaaGreat.top ls-1<ls.length:=by omega
  have hc:=iK ls (Go.Proofs.YtihdffpekpnglaaGreat.top ls-1) hlt
  have hl:=ir (hlm _ (List.getElem_mem hlt))
  rw[getD_at hlt]at hc hnz
  rw[<-hc,iB (l:=((bitsOf ls).drop (32*(Go.Proofs.YtihdffpekpnglaaGreat.top ls-1))).take 32) (λb hb=>q5 b (by rw[List.drop_zero];exact List.mem_of_mem_drop (List.mem_of_mem_take hb)))]at hl
  exact hnz hl.symm
 ·obtain⟨bit,hbit,hb0⟩:=q3 hk
  have hz:=ma hbit hb0
  have hle:=j1 ls
  have h1:(k-1) / 32<Go.Proofs.YtihdffpekpnglaaGreat.top ls:=by
   rcases Nat.lt_or_ge ((k-1) / 32) (Go.Proofs.YtihdffpekpnglaaGreat.top ls)with hh | hh
   ·exact hh
   ·exact absurd (jR ls _ hh) hz
  rcases Nat.lt_or_ge ((k-1) / 32+1) (Go.Proofs.YtihdffpekpnglaaGreat.top ls)with hh | hh
  case inr=>omega
  exfalso
  have hnz:ls.getD (Go.Proofs.YtihdffpekpnglaaGreat.top ls-1) 0≠0:=jG ls ls.length (show Go.Proofs.YtihdffpekpnglaaGreat.top ls≠0 by omega)
  have hlt:Go.Proofs.YtihdffpekpnglaaGreat.top ls-1<ls.length:=by omega
  have hc:=iK ls (Go.Proofs.YtihdffpekpnglaaGreat.top ls-1) hlt
  have hl:=ir (hlm _ (List.getElem_mem hlt))
  rw[getD_at hlt]at hc hnz
  rw[<-hc,iB (λb hb=>q5 b ?_)]at hl
  ·exact hnz hl.symm
  ·have hb2:=List.mem_of_mem_take hb
   have:32*(Go.Proofs.YtihdffpekpnglaaGreat.top ls-1)=k+(32*(Go.Proofs.YtihdffpekpnglaaGreat.top ls-1)-k):=by omega
   rw[this,<-List.drop_drop]at hb2
   exact List.mem_of_mem_drop hb2
theorem ql(a b:List Int):bitsOf (a++b)=bitsOf a++bitsOf b:=by simp[bitsOf]
theorem jr.trim{ls:List Int}{k:Nat}(h:jr ls k)(hlm: ∀x∈ls,fM x):jX ((bitsOf ls).take k) k=trim ls:=by
 have ht:=h.top hlm
 have htl:=iA ls
 have hle:=j1 ls
 have hsp:ls=Go.Proofs.YtihdffpekpnglaaGreat.trim ls++ls.drop (Go.Proofs.YtihdffpekpnglaaGreat.top ls):=by unfold Go.Proofs.YtihdffpekpnglaaGreat.trim;rw[List.take_append_drop]
 have hb:bitsOf ls=bitsOf (Go.Proofs.YtihdffpekpnglaaGreat.trim ls)++bitsOf (ls.drop (Go.Proofs.YtihdffpekpnglaaGreat.top ls)):=by rw[<-ql,<-hsp]
 have hbl:=jj (Go.Proofs.YtihdffpekpnglaaGreat.trim ls)
 have he:(bitsOf ls).take k=(bitsOf (Go.Proofs.YtihdffpekpnglaaGreat.trim ls)).take k:=by
  rw[hb,List.take_append_of_le_length (by omega)]
 have hr: ∀b∈(bitsOf (Go.Proofs.YtihdffpekpnglaaGreat.trim ls)).drop k,b=0:=λb hb'=>h.rest b (by
  rw[hb,List.drop_append_of_le_length (by omega)]
  exact List.mem_append_left _ hb')
 rw[he]
 exact ng (λx hx=>hlm x (pg hx)) (by omega) hr
theorem kC: ∀(a b:List Int),(∀x∈b,x=0)->dF (a++b)=dF a
 | [],[],_=>rfl
 | [],x::b,h=>by
  have h0:=h x (by simp)
  have:=kC [] b (λy hy=>h y (by simp[hy]))
  simp only[List.nil_append]at this⊢
  show x+4294967296*dF b=0
  rw[this,h0];rfl
 | m::a,b,h=>by
  show m+4294967296*dF (a++b)=m+4294967296*dF a
  rw[kC a b h]
theorem om(ls:List Int):dF (trim ls)=dF ls:=by
 have hsp:ls=trim ls++ls.drop (top ls):=by unfold trim;rw[List.take_append_drop]
 conv=>rhs;rw[hsp]
 rw[kC]
 intro x hx
 obtain⟨i,hi,rfl⟩:=List.getElem_of_mem hx
 rw[List.getElem_drop]
 have hl:top ls+i<ls.length:=by rw[List.length_drop]at hi;omega
 have:=jR ls (top ls+i) (by omega)
 rw[getD_at hl]at this
 exact this
theorem kD: ∀{ls:List Int},(∀x∈ls,fM x)->0<=dF ls
 | [],_=>Int.le_refl _
 | m::r,h=>by
  have h1:=h m (by simp)
  have h2:=kD (ls:=r) (λx hx=>h x (by simp[hx]))
  show 0<=m+4294967296*dF r
  unfold fM at h1;omega
theorem rV{neg:Bool}{ls:List Int}(hlm: ∀x∈ls,fM x)(ht:top ls=ls.length)(hz:neg=true->0<ls.length):
  (fixR neg ls).2=decide (-1152921504606846976<=(if neg then-dF ls else dF ls)/\(if neg then-dF ls else dF ls)<1152921504606846976)/\((fixR neg ls).2=true->(fixR neg ls).1=if neg then-dF ls else dF ls):=by
 have h0:=kD hlm
 have key:(2<top ls/\1152921504606846976<dF ls)\/(¬2<top ls/\fixX ls=dF ls):=by
  match ls,hlm,ht with
  | [],_,_=>right;exact⟨by simp[top,topN],rfl⟩
  | [a],_,ht=>right;exact⟨by rw[ht];simp,by simp[fixX,dF]⟩
  | [a,b],_,ht=>right;exact⟨by rw[ht];simp,by simp[fixX,dF]⟩
  | a::b::c::r,hlm,ht=>
   left
   refine⟨by rw[ht];simp,?_⟩
   have ha:=hlm a (by simp)
   have hb:=hlm b (by simp)
   have hnz:(a::b::c::r).getD (top (a::b::c::r)-1) 0≠0:=jG _ (a::b::c::r).length (show top (a::b::c::r)≠0 by rw[ht];simp)
   have hpos:1<=dF (c::r):=by
    have hge: ∀l:List Int,(∀x∈l,fM x)-> ∀i,l.getD i 0≠0->1<=dF l:=by
     intro l
     induction l with
     | nil=>intro _ i hi;simp at hi
     | cons m l ih=>
      intro hl i hi
      have hm:=hl m (by simp)
      have hp:=kD (ls:=l) (λx hx=>hl x (by simp[hx]))
      show 1<=m+4294967296*dF l
      unfold fM at hm
      cases i with
      | zero=>simp at hi;omega
      | succ i=>
       have:=ih (λx hx=>hl x (by simp[hx])) i (by simpa using hi)
       omega
    refine hge (c::r) (λx hx=>hlm x (by simp at hx⊢;right;right;exact hx)) (top (a::b::c::r)-3) ?_
    have e:top (a::b::c::r)-1=(top (a::b::c::r)-3)+2:=by rw[ht];simp
    rw[e]at hnz
    simpa using hnz
   show 1152921504606846976<a+4294967296*(b+4294967296*dF (c::r))
   unfold fM at ha hb;omega
 rcases key with⟨k1,k2⟩ | ⟨k1,k2⟩
 ·have e:fixR neg ls=(0,false):=by unfold fixR;rw[if_pos k1]
  rw[e]
  refine⟨?_,λh=>absurd h (by decide)⟩
  rw[zJ]
  cases neg<;>simp<;>omega
 ·unfold fixR
  rw[if_neg k1,k2]
  cases neg
  ·by_cases h1:dF ls>1152921504606846976
   ·rw[if_pos h1]
    exact⟨by rw[zJ];simp;omega,λh=>absurd h (by decide)⟩
   ·rw[if_neg h1]
    by_cases h2:dF ls=1152921504606846976
    ·rw[if_pos ⟨h2,rfl⟩]
     exact⟨by rw[zJ];simp;omega,λh=>absurd h (by decide)⟩
    ·rw[if_neg (λq=>h2 q.1),if_neg (by decide)]
     exact⟨by rw[zQ];simp;omega,λ_=>rfl⟩
  ·by_cases h1:dF ls>1152921504606846976
   ·rw[if_pos h1]
    exact⟨by rw[zJ];simp;omega,λh=>absurd h (by decide)⟩
   ·rw[if_neg h1,if_neg (λq=>absurd q.2 (by decide)),if_pos rfl]
    exact⟨by rw[zQ];simp;omega,λ_=>rfl⟩
