/-
 moraineref02.May: a number that may be is one that num.May lets be (by the lengths of its rows of bits alone). Proves nothing of any one program.
-/
import Derived.Test.YtihdffpekpnglaaGreatNumH
set_option linter.unusedVariables false
set_option linter.unusedSimpArgs false
namespace Go.Proofs.YtihdffpekpnglaaGreat
open Go

def bitX(m k:Int):Int:=IntKind.wrap .u8 (iand .u32 (ishr .u32 m k) 1)
def gm(m:Int):List Int:=(List.range 32).map λ(k:Nat)=>bitX m (k:Int)
def bitsOf(ls:List Int):List Int:=ls.flatMap gm
abbrev bvs(l:List Int):List Value:=l.map (Value.int .u8)
theorem nf: ∀l:List Int,gF (bvs l)=true
 | []=>rfl
 | x::l=>by have:=nf l;simp only[bvs,List.map_cons];exact this
theorem gX(m:Int):(gm m).length=32:=by simp[gm]
theorem jj: ∀ls:List Int,(bitsOf ls).length=32*ls.length
 | []=>rfl
 | m::ls=>by simp only[bitsOf,List.flatMap_cons,List.length_append,gX,List.length_cons];have:=jj ls;unfold bitsOf at this;omega
theorem pl(ls:List Int)(m:Int):bitsOf (ls++[m])=bitsOf ls++gm m:=by simp[bitsOf]
theorem rS:((List.range 32).all λ(k:Nat)=>bitX 0 (k:Int)==0)=true:=by kernel_rfl
theorem ma{ls:List Int}{n:Nat}{b:Int}(h:(bitsOf ls)[n]?=some b)(hb:b≠0):ls.getD (n / 32) 0≠0:=by
 induction ls generalizing n with
 | nil=>simp[bitsOf]at h
 | cons m r ih=>
  simp only[bitsOf,List.flatMap_cons]at h
  by_cases hn:n<32
  ·rw[List.getElem?_append_left (by rw[gX];exact hn)]at h
   have:n / 32=0:=by omega
   rw[this]
   intro h0
   have h0:m=0:=h0
   subst h0
   have:=List.all_eq_true.1 rS n (by simpa using hn)
   simp[gm,hn]at h
   rw[<-h]at hb
   exact hb (by simpa using this)
  ·rw[List.getElem?_append_right (by rw[gX];omega),gX]at h
   have:=ih h
   rw[show n / 32=(n-32) / 32+1 by omega]
   simpa using this
theorem mu{H:zW}{B:zY}{xs:List Int}(h:cY H B (bvs xs)){i:Nat}(hi:i<xs.length): ∃a,B=some a/\hat H (a.add (i*1))=some (.int .u8 xs[i]):=by
 cases B with
 | none=>simp[bvs]at h;subst h;simp at hi
 | some a=>
  refine⟨a,rfl,?_⟩
  have:=gZ h i (.int .u8 xs[i]) (by simp[bvs,hi])
  simpa using this
theorem rU(l:List Int)(k:Nat):bvs (l.take k)=(bvs l).take k:=by simp[bvs,List.map_take]

def eC:List Int->Int
 | []=>0
 | b::r=>(if b=1 then 1 else 0)+2*eC r
theorem iJ: ∀l:List Int,0<=eC l/\eC l<2 ^ l.length
 | []=>by simp[eC]
 | b::r=>by
  have:=iJ r
  simp only[eC,List.length_cons,Int.pow_succ]
  split<;>omega
theorem iU: ∀(l:List Int) (b:Int),eC (l++[b])=eC l+(if b=1 then 2 ^ l.length else 0)
 | [],b=>by simp[eC]
 | a::r,b=>by
  simp only[List.cons_append,eC,iU r b,List.length_cons,Int.pow_succ]
  split<;>split<;>omega
theorem iB: ∀{l:List Int},(∀b∈l,b=0)->eC l=0
 | [],_=>rfl
 | b::r,h=>by
  simp only[eC]
  rw[h b (by simp),iB (λx hx=>h x (by simp[hx]))];decide
theorem kl: ∀(l r:List Int),eC (l++r)=eC l+2 ^ l.length*eC r
 | [],r=>by simp[eC]
 | a::l,r=>by
  simp only[List.cons_append,eC,kl l r,List.length_cons,Int.pow_succ]
  rw[show(2:Int) ^ l.length*2*eC r=2*(2 ^ l.length*eC r)by rw[Int.mul_comm (2 ^ l.length) 2,Int.mul_assoc]]
  omega
def jX(xs:List Int)(i:Nat):List Int:=(List.range ((i+31) / 32)).map λj=>eC (((xs.take i).drop (32*j)).take 32)
theorem mb(xs:List Int)(i:Nat):(jX xs i).length=(i+31) / 32:=by simp[jX]
theorem pm(xs:List Int)(i:Nat){j:Nat}(h:j< (jX xs i).length):(jX xs i)[j]=eC (((xs.take i).drop (32*j)).take 32):=by simp[jX]
theorem lg{xs:List Int}{i j:Nat}(h:32*j+32<=i):((xs.take i).drop (32*j)).take 32=(xs.drop (32*j)).take 32:=by
 rw[List.drop_take,List.take_take,Nat.min_eq_left (by omega)]
theorem qi{xs:List Int}{i j:Nat}(h:i<=32*j+32):((xs.take i).drop (32*j)).take 32=(xs.drop (32*j)).take (i-32*j):=by
 rw[List.drop_take,List.take_take,Nat.min_eq_right (by omega)]
theorem sK{x:Int}{k:Nat}(hx:0<=x/\x<2 ^ k)(hk:k<32):ior .u32 x (ishl .u32 1 (k:Int))=x+2 ^ k:=by
 have hcast:((2 ^ k:Nat):Int)=(2:Int) ^ k:=by simp
 have hle:(2:Nat) ^ k<=2 ^ 31:=Nat.pow_le_pow_right (by decide) (by omega)
 have hs:ishl .u32 1 (k:Int)=2 ^ k:=by
  unfold ishl
  rw[show min (k:Int).toNat IntKind.u32.bits=k by rw[Int.toNat_natCast];exact Nat.min_eq_left (by show k<=32;omega),Int.one_mul,wu32 (by omega)]
 rw[hs]
 unfold ior
 rw[BitVec.toNat_or]
 have e1:(BitVec.ofInt IntKind.u32.bits x).toNat=x.toNat:=by
  rw[BitVec.toNat_ofInt]
  show(x % ((2 ^ 32:Nat):Int)).toNat=_
  rw[Int.emod_eq_of_lt hx.1 (by simp;omega)]
 have e2:(BitVec.ofInt IntKind.u32.bits (2 ^ k)).toNat=2 ^ k:=by
  rw[BitVec.toNat_ofInt]
  show(((2:Int) ^ k) % ((2 ^ 32:Nat):Int)).toNat=_
  rw[Int.emod_eq_of_lt (by omega) (by simp;omega)];omega
 rw[e1,e2,Nat.or_comm]
 have h2:=Nat.two_pow_add_eq_or_of_lt (i:=k) (b:=x.toNat) (by omega) 1
 rw[Nat.mul_one]at h2
 rw[<-h2,wu32 (by omega)]
 omega
theorem qI{m:Int}(hm:0<=m/\m<4294967296){k:Nat}(hk:k<32):bitX m (k:Int)=m / 2 ^ k % 2:=by
 have hp:(0:Int)<2 ^ k:=Int.pow_pos (by decide)
 unfold bitX
 rw[hM (k:=.u32) (x:=m) (k:Int) k rfl (by show k<=32;omega)]
 have hq:0<=m / 2 ^ k/\m / 2 ^ k<=m:=⟨Int.ediv_nonneg hm.1 (by omega),Int.ediv_le_self _ hm.1⟩
 generalize m / 2 ^ k=q at*
 have e1:(BitVec.ofInt IntKind.u32.bits q).toNat=q.toNat:=by
  rw[BitVec.toNat_ofInt]
  show(q % ((2 ^ 32:Nat):Int)).toNat=_
  rw[Int.emod_eq_of_lt hq.1 (by simp;omega)]
 have e2:(BitVec.ofInt IntKind.u32.bits 1).toNat=1:=by decide
 have e3:iand .u32 q 1=q % 2:=by
  unfold iand
  rw[BitVec.toNat_and,e1,e2,Nat.and_one_is_mod,wu32 (by omega)]
  omega
 rw[e3]
 unfold IntKind.wrap
 simp only[IntKind.bits,IntKind.signed,Bool.false_and,Bool.false_eq_true,if_false]
 omega
theorem lx(m:Int)(hm:0<=m): ∀n:Nat,eC ((List.range n).map λk=>m / 2 ^ k % 2)=m % 2 ^ n
 | 0=>by simp[eC,Int.emod_one]
 | n+1=>by
  rw[List.range_succ,List.map_append,List.map_singleton,iU,lx m hm n]
  simp only[List.length_map,List.length_range,Int.pow_succ]
  have hp:(0:Int)<2 ^ n:=Int.pow_pos (by decide)
  have h1:=Int.emod_add_mul_ediv m (2 ^ n)
  have h2:=Int.emod_add_mul_ediv (m / 2 ^ n) 2
  have h3:m % (2 ^ n*2)=m % 2 ^ n+2 ^ n*(m / 2 ^ n % 2):=by
   have e1:m=(2 ^ n*2)*(m / 2 ^ n / 2)+(m % 2 ^ n+2 ^ n*(m / 2 ^ n % 2)):=by
    rw[Int.mul_assoc]
    have e3:2 ^ n*(m / 2 ^ n)=2 ^ n*(m / 2 ^ n % 2)+2 ^ n*(2*(m / 2 ^ n / 2)):=by rw[<-Int.mul_add,h2]
    omega
   have hb:0<=m % 2 ^ n/\m % 2 ^ n<2 ^ n:=⟨Int.emod_nonneg _ (by omega),Int.emod_lt_of_pos _ hp⟩
   have hr:0<=m % 2 ^ n+2 ^ n*(m / 2 ^ n % 2)/\m % 2 ^ n+2 ^ n*(m / 2 ^ n % 2)<2 ^ n*2:=by
    rcases Int.emod_two_eq (m / 2 ^ n)with h | h<;>rw[h]<;>omega
   conv=>lhs;rw[e1]
   rw[Int.mul_add_emod_self_left,Int.emod_eq_of_lt hr.1 hr.2]
  rw[h3]
  rcases Int.emod_two_eq (m / 2 ^ n)with h | h<;>rw[h]<;>simp
theorem ir{m:Int}(hm:0<=m/\m<4294967296):eC (gm m)=m:=by
 have:gm m=(List.range 32).map λk=>m / 2 ^ k % 2:=by
  unfold gm
  refine List.map_congr_left λk hk=>qI hm (List.mem_range.1 hk)
 rw[this,lx m hm.1,Int.emod_eq_of_lt hm.1 (by simpa using hm.2)]
theorem iK: ∀(ls:List Int) (j:Nat),j<ls.length->((bitsOf ls).drop (32*j)).take 32=gm (ls.getD j 0)
 | [],_,h=>by simp at h
 | m::r,0,_=>by
  simp only[bitsOf,List.flatMap_cons,Nat.mul_zero,List.drop_zero]
  rw[List.take_append_of_le_length (by rw[gX];exact Nat.le_refl _),List.take_of_length_le (by rw[gX];exact Nat.le_refl _)];rfl
 | m::r,j+1,h=>by
  have:=iK r j (by simpa using h)
  simp only[bitsOf,List.flatMap_cons]at this⊢
  rw[show 32*(j+1)=(gm m).length+32*j by rw[gX];omega,<-List.drop_drop,List.drop_left,this];rfl
theorem ng{ls:List Int}{k:Nat}(hl: ∀x∈ls,0<=x/\x<4294967296)(hk:(k+31) / 32=ls.length)(hz: ∀b∈(bitsOf ls).drop k,b=0):jX ((bitsOf ls).take k) k=ls:=by
 refine List.ext_getElem (by rw[mb,hk]) λj h1 h2=>?_
 rw[pm]
 have hc:=iK ls j h2
 have hb:=ir (hl _ (List.getElem_mem h2))
 rw[getD_at h2]at hc
 rw[List.take_take,Nat.min_self]
 by_cases hj:32*j+32<=k
 ·rw[lg hj,hc,hb]
 ·rw[qi (by omega)]
  rw[<-hc]at hb
  have hs:((bitsOf ls).drop (32*j)).take 32=((bitsOf ls).drop (32*j)).take (k-32*j)++(((bitsOf ls).drop (32*j)).take 32).drop (k-32*j):=by
   have h3:=List.take_append_drop (k-32*j) (((bitsOf ls).drop (32*j)).take 32)
   rw[List.take_take,Nat.min_eq_left (by omega)]at h3
   exact h3.symm
  rw[hs,kl]at hb
  rw[iB (l:=(((bitsOf ls).drop (32*j)).take 32).drop (k-32*j)) (λb hb'=>hz b ?_),Int.mul_zero,Int.add_zero]at hb
  ·exact hb
  ·rw[List.drop_take]at hb'
   have hb2:=List.mem_of_mem_take hb'
   rw[List.drop_drop,show 32*j+(k-32*j)=k by omega]at hb2
   exact hb2
def gO(xs:List Int)(i n:Nat):List Int:=(List.range n).map λj=>eC (((xs.take i).drop (32*j)).take 32)
theorem pn{xs:List Int}{i n:Nat}(h:i<=32*n):gO xs i (n+1)=gO xs i n++[0]:=by
 unfold gO
 rw[List.range_succ,List.map_append,List.map_singleton,List.drop_eq_nil_of_le (by rw[List.length_take];omega)];rfl
theorem mc{xs:List Int}{i n:Nat}(h:i<xs.length)(hn:i / 32<n):gO xs (i+1) n=(gO xs i n).set (i / 32) ((gO xs i n).getD (i / 32) 0+(if xs[i]=1 then 2 ^ (i % 32)else 0)):=by
 refine List.ext_getElem (by simp[gO]) λj h1 h2=>?_
 have hjn:j<n:=by simpa[gO]using h1
 rw[List.getElem_set]
 have e1:(gO xs (i+1) n)[j]=eC (((xs.take (i+1)).drop (32*j)).take 32):=by simp[gO]
 have e2: ∀(j:Nat) (hj:j< (gO xs i n).length),(gO xs i n)[j]=eC (((xs.take i).drop (32*j)).take 32):=λj hj=>by simp[gO]
 rw[e1]
 by_cases hj:i / 32=j
 ·rw[if_pos hj,getD_at (by simp[gO];exact hn),e2]
  rw[hj,List.take_add_one (l:=xs),List.getElem?_eq_getElem h]
  simp only[Option.toList_some]
  rw[List.drop_append_of_le_length (by rw[List.length_take];omega)]
  have hl:((xs.take i).drop (32*j)).length=i % 32:=by rw[List.length_drop,List.length_take];omega
  have t1:((xs.take i).drop (32*j)++[xs[i]]).take 32=(xs.take i).drop (32*j)++[xs[i]]:=List.take_of_length_le (by rw[List.length_append,hl];simp;omega)
  have t2:((xs.take i).drop (32*j)).take 32=(xs.take i).drop (32*j):=List.take_of_length_le (by rw[hl];omega)
  rw[t1,t2,iU,hl]
 ·rw[if_neg hj,e2]
  by_cases hlt:j<i / 32
  ·rw[lg (by omega),lg (by omega)]
  ·rw[List.drop_eq_nil_of_le (by rw[List.length_take];omega),List.drop_eq_nil_of_le (by rw[List.length_take];omega)]
theorem qZ{xs:List Int}{i n:Nat}(h:i<xs.length)(hn:i / 32<n):0<=(gO xs i n).getD (i / 32) 0/\(gO xs i n).getD (i / 32) 0<2 ^ (i % 32):=by
 rw[getD_at (by simp[gO];exact hn)]
 have e:(gO xs i n)[i / 32]'(by simp[gO];exact hn)=eC (((xs.take i).drop (32*(i / 32))).take 32):=by simp[gO]
 rw[e]
 have hl:((xs.take i).drop (32*(i / 32))).length=i % 32:=by rw[List.length_drop,List.length_take];omega
 rw[List.take_of_length_le (by rw[hl];omega)]
 have:=iJ ((xs.take i).drop (32*(i / 32)))
 rw[hl]at this;exact this
theorem rf{H:zW}{B:zY}{n c:Nat}{xs:List Int}(hs:cY H B (bvs xs))(hn:n=xs.length)(hc:n<=c)(hb:n<=100000):
  fD.C B n c H (λv H'=> ∃(k c':Nat),v=.slice B k c'/\k<=n/\k<=c'/\(∀h:k≠0,∃b,xs[k-1]?=some b/\b≠0)/\(∀b∈xs.drop k,b=0)/\H=H'):=by
 refine HC.via λR hR=>fD.link ?_
 unfold fD.pt zq
 refine⟨λnv A=>H=A/\(0<=nv/\nv<=n)/\ ∀b∈xs.drop nv.toNat,b=0,λnv _=>nv.toNat,⟨rfl,⟨by omega,Int.le_refl _⟩,by rw[List.drop_eq_nil_of_le (by omega)];simp⟩,?_⟩
 rintro nv A ⟨rfl,⟨h0,h1⟩,hdr⟩
 have hout: ∀sl:zY,sl=(if c=0 then B else Option.map (λa:Addr=>a.add (0*1)) B)->sl=B:=by
  rintro sl rfl
  by_cases hz:c=0
  ·rw[if_pos hz]
  ·rw[if_neg hz];cases B with
   | none=>rfl
   | some a=>simp[ld]
 by_cases hp:nv>0
 ·rw[if_pos hp]
  have hi:(nv-1).toNat<xs.length:=by omega
  obtain⟨a,ha,hx⟩:=mu hs hi
  rw[w64 (by omega)]
  refine⟨a,ha,⟨by omega,by omega⟩,_,hx,?_⟩
  by_cases hz:xs[(nv-1).toNat]=0
  ·rw[if_pos hz]
   refine⟨⟨rfl,⟨by omega,by omega⟩,λb hb=>?_⟩,by show(nv-1).toNat<nv.toNat;omega⟩
   rw[List.drop_eq_getElem_cons hi,show(nv-1).toNat+1=nv.toNat by omega]at hb
   rcases List.mem_cons.1 hb with e | hb
   ·rw[e,hz]
   ·exact hdr b hb
  ·rw[if_neg hz]
   refine⟨0,nv.toNat,rfl,by omega,by omega,by omega,λsl hsl=>?_⟩
   have:=hout sl (by rw[hsl,ha])
   subst this
   refine hR _ _ ⟨nv.toNat,_,rfl,by omega,by omega,λhk=>⟨xs[(nv-1).toNat],?_,hz⟩,hdr,rfl⟩
   rw[show nv.toNat-1=(nv-1).toNat by omega];exact List.getElem?_eq_getElem hi
 ·rw[if_neg hp]
  refine⟨0,0,rfl,by omega,by omega,by omega,λsl hsl=>?_⟩
  have:=hout sl hsl
  subst this
  exact hR _ _ ⟨0,_,rfl,by omega,by omega,λhk=>absurd rfl hk,by rw[show nv.toNat=0 by omega]at hdr;exact hdr,rfl⟩
theorem jq{H:zW}{neg:Bool}{mB:zY}{mN mC:Nat}{ls:List Int}(hs:cY H mB (lvs ls))(hn:mN=ls.length)(hb:mN<=1000):
  bK.C neg mB mN mC H (λv H'=> ∃(B:zY) (k c:Nat),v=.agg #[.bool (neg && decide ((k:Int)>0)),.slice B k c]/\k<=32*ls.length/\k<=c/\(∀h:k≠0,∃b,(bitsOf ls)[k-1]?=some b/\b≠0)/\(∀b∈(bitsOf ls).drop k,b=0)/\cY H' B (bvs ((bitsOf ls).take k))/\Ext H H'):=by
 refine HC.via λR hR=>bK.link ?_
 unfold bK.pt zq
 intro b H1 hb1 hH1 b2 H2 hb2 hH2
 have e1:=Ext.push' hH1
 have e2:=Ext.push' hH2
 have g1:=e2.get (aO hb1 hH1)
 have g2:=aO hb2 hH2
 have e12:=e1.trans e2
 have hsz:H.size<H2.size:=by rw[hH2,hH1];simp;omega
 have hlt:=bI g2
 refine⟨λB n c i A=>(0<=i/\i<=mN)/\Ext H2 A/\n=32*i.toNat/\Own A 5 1 B n c (bvs (bitsOf (ls.take i.toNat)))/\(∀j∈blks B,H2.size<=j),λ_ _ _ i _=>(mN-i).toNat,⟨by omega,Ext.refl _,rfl,gH,by simp⟩,?_⟩
 rintro B n c i A ⟨hi,eA,hnn,ho,hB⟩
 refine⟨_,_,_,by rw[aS (eA.get g1)];rfl,?_⟩
 by_cases hlt':i< (mN:Int)
 ·rw[if_pos hlt']
  have hin:i.toNat<ls.length:=by omega
  refine⟨λB n c k A'=>(0<=k/\k<=32)/\Ext H2 A'/\n=32*i.toNat+k.toNat/\Own A' 5 1 B n c (bvs (bitsOf (ls.take i.toNat)++(gm ls[i.toNat]).take k.toNat))/\(∀j∈blks B,H2.size<=j),λ_ _ _ k _=>(32-k).toNat,⟨by omega,eA,by simpa using hnn,by simpa using ho,hB⟩,?_⟩
  clear ho hB hnn
  rintro B n c k A' ⟨hk,eA',hnn,ho,hB⟩
  by_cases hk32:k<32
  ·rw[if_pos hk32]
   obtain⟨a,ha,hx⟩:=jd (hs.ext (e12.trans eA')) (by omega)
   have hlx:=rowD hx hin
   rw[getD_at hin]at hlx
   refine⟨_,_,_,by rw[aS (eA'.get g1)];rfl,a,ha,⟨hi.1,hlt'⟩,_,by rw[Nat.mul_one];exact hlx,hk.1,λb3 H5 hb3 hH5=>?_⟩
   have e5:=Ext.push' hH5
   refine cZ (ys:=bvs [bitX ls[i.toNat] k]) (ho.ext e5) (dH (aO hb3 hH5) _ 0 0 (λj hj=>by simp at hj;subst hj;rfl)) rfl (nf _) rfl (by omega) ?_
   intro p' c' H6 ho6 f6 hnew
   have e6:Ext H2 H6:=(eA'.trans e5).fr_trans f6 (λj hj=>hB j hj)
   rw[w64 (by omega)]
   refine⟨⟨by omega,e6,by omega,?_,λj hj=>?_⟩,by show(32-(k+1)).toNat< (32-k).toNat;omega⟩
   ·have ht:(gm ls[i.toNat]).take (k+1).toNat=(gm ls[i.toNat]).take k.toNat++[bitX ls[i.toNat] k]:=by
     rw[show(k+1).toNat=k.toNat+1 by omega,List.take_add_one]
     congr 1
     have:k.toNat<32:=by omega
     simp[gm,this]
     rw[show max k 0=k by omega]
    rw[ht,<-List.append_assoc]
    simpa[bvs]using ho6
   ·rcases hnew j hj with h | h
    ·exact hB j h
    ·have:=eA'.size;have:=e5.size;omega
  ·rw[if_neg hk32,w64 (by omega)]
   refine⟨⟨by omega,eA',by omega,?_,hB⟩,by show((mN:Int)-(i+1)).toNat< ((mN:Int)-i).toNat;omega⟩
   rw[show(i+1).toNat=i.toNat+1 by omega,List.take_add_one,List.getElem?_eq_getElem hin]
   have:(gm ls[i.toNat]).take k.toNat=gm ls[i.toNat]:=List.take_of_length_le (by rw[gX];omega)
   rw[this]at ho
   show Own A' _ 1 B n c (bvs (bitsOf (ls.take i.toNat++[ls[i.toNat]])))
   rw[pl];exact ho
 ·rw[if_neg hlt']
  have hall:ls.take i.toNat=ls:=List.take_of_length_le (by omega)
  rw[hall]at ho
  refine⟨_,by rw[aU (eA.get g1)];rfl,?_⟩
  have hbl:=jj ls
  refine HC.mono (R:=λv H'=> ∃(k c:Nat),v=.agg #[.bool (neg && decide ((k:Int)>0)),.slice B k c]/\k<=32*ls.length/\k<=c/\(∀h:k≠0,∃b,(bitsOf ls)[k-1]?=some b/\b≠0)/\(∀b∈(bitsOf ls).drop k,b=0)/\Ext A H') ?_ ?_
  ·refine HC.via λR2 hR2=>eN.link ?_
   unfold eN.pt
   intro b3 H3 hb3 hH3
   have e3:=Ext.push' hH3
   refine HC.mono (rf ((ho.ext e3).src) (by omega) ho.le (by omega)) ?_
   rintro _ H4 ⟨k,c',rfl,q1,q2,q3,q4,rfl⟩
   refine⟨_,_,_,rfl,?_⟩
   by_cases hneg:neg=true
   ·rw[if_pos hneg]
    obtain⟨r1,r2⟩:=fE (vs:=[.bool (decide ((k:Int)>0)),.slice B k c']) (n:=2) hb3 hH3 rfl rfl
    refine⟨r1,λH5 hH5=>?_⟩
    obtain⟨r3,r4⟩:=r2 H5 hH5
    exact⟨_,_,_,_,bQ r3,hR2 _ _ ⟨k,c',by rw[hneg];rfl,by omega,q2,q3,q4,r4⟩⟩
   ·rw[if_neg hneg]
    obtain⟨r1,r2⟩:=fE (vs:=[.bool false,.slice B k c']) (n:=2) hb3 hH3 rfl rfl
    refine⟨r1,λH5 hH5=>?_⟩
    obtain⟨r3,r4⟩:=r2 H5 hH5
    exact⟨_,_,_,_,bQ r3,hR2 _ _ ⟨k,c',by rw[show neg=false by simpa using hneg];rfl,by omega,q2,q3,q4,r4⟩⟩
  ·rintro _ H7 ⟨k,c',rfl,q1,q2,q3,q4,e7⟩
   refine⟨_,_,_,_,rfl,?_⟩
   obtain⟨r1,r2⟩:=iH (vs:=[.bool (neg && decide ((k:Int)>0)),.slice B k c']) (n:=2) ((eA.trans e7).get g2) rfl rfl
   refine⟨r1,λH8 hH8=>?_⟩
   obtain⟨r3,r4⟩:=r2 H8 hH8
   have hb2':b2<H2.size:=bI g2
   refine⟨_,_,_,_,bQ r3,hR _ _ ⟨B,k,c',rfl,q1,q2,q3,q4,?_,(e12.trans (eA.trans e7)).fr_trans r4 (λj hj=>?_)⟩⟩
   ·rw[rU]
    refine ph ?_ _
    have h7:=(ho.ext e7).src
    cases B with
    | none=>exact h7
    | some a=>exact r4.rowAt (by have:=hB a.block (by simp);simp;omega) h7
   ·simp at hj;subst hj;have:=e1.size;omega
theorem lQ{H:zW}{neg:Bool}{B:zY}{n c:Nat}{xs:List Int}(hs:cY H B (bvs xs))(hn:n=xs.length)(hb:n<=100000):
  cQ.C neg B n c H (λv H'=> ∃(neg':Bool) (mB:zY) (mN mC:Nat) (ls:List Int) (e:Int),v=.tuple #[.agg #[.bool neg',.slice mB mN mC],.int .i64 e]/\((e=0 ↔ n<=1536)/\(e≠0->e=6))/\(e=0->neg'=neg/\mN=ls.length/\cY H' mB (lvs ls)/\ls=jX xs n/\ ∀j∈blks mB,H.size<=j)/\Ext H H'):=by
 refine HC.via λR hR=>cQ.link ?_
 unfold cQ.pt zq
 intro b H1 hb1 hH1 b2 H2 hb2 hH2
 have e1:=Ext.push' hH1
 have e2:=Ext.push' hH2
 have e12:=e1.trans e2
 have g1:=e2.get (aO hb1 hH1)
 have g2:=aO hb2 hH2
 have hb2':b2<H2.size:=bI g2
 have hb1':b<H1.size:=bI (aO hb1 hH1)
 have hHb:H.size<=b:=by omega
 have hne:b≠b2:=by omega
 refine⟨_,_,_,by rw[aS g1];rfl,?_⟩
 by_cases hbig:(n:Int)>1536
 ·rw[if_pos hbig]
  obtain⟨r1,r2⟩:=fE (vs:=[.bool false,.slice none 0 0]) (n:=2) hb2 hH2 rfl rfl
  refine⟨r1,λH3 hH3=>?_⟩
  obtain⟨r3,r4⟩:=r2 H3 hH3
  exact⟨_,_,_,_,bQ r3,hR _ _ ⟨_,_,_,_,[],6,rfl,⟨by omega,λ_=>rfl⟩,λh=>by omega,e1.trans r4⟩⟩
 rw[if_neg hbig]
 refine⟨_,by rw[aU g1];rfl,λb3 H4 hb3 hH4=>?_⟩
 have e4:=Ext.push' hH4
 obtain⟨r1,r2⟩:=fE (vs:=[.bool neg,.slice none 0 0]) (n:=2) hb3 hH4 rfl rfl
 refine⟨r1,λH5 hH5=>?_⟩
 obtain⟨g5,e5⟩:=r2 H5 hH5
 have hb3':b3=H2.size:=hb3
 refine⟨λi A=>(0<=i/\i<=n)/\Ext H2 A/\ ∃(mB:zY) (mN mC:Nat) (ls:List Int),A[b3]?=some (.cells #[.bool neg,.slice mB mN mC] 39 (0,0))/\Own A 154 1 mB mN mC (lvs ls)/\mN=(i.toNat+31) / 32/\ls=gO xs i.toNat mN/\(∀j∈blks mB,H2.size<=j/\j≠b3),λi _=>(n-i).toNat,
  ⟨by omega,e5,none,0,0,[],g5,gH,rfl,rfl,by simp⟩,?_⟩
 rintro i A ⟨hi,eA,mB,mN,mC,ls,gA,ho,hmN,hlen,hmB⟩
 have g1A:=eA.get g1
 refine⟨_,_,_,by rw[aS g1A];rfl,?_⟩
 by_cases hlt:i< (n:Int)
 ·rw[if_pos hlt]
  have hin:i.toNat<xs.length:=by omega
  refine⟨λA'=>Ext H2 A'/\ ∃(mB:zY) (mN mC:Nat) (ls:List Int),A'[b3]?=some (.cells #[.bool neg,.slice mB mN mC] 39 (0,0))/\Own A' 154 1 mB mN mC (lvs ls)/\mN=((i+1).toNat+31) / 32/\ls=gO xs i.toNat mN/\(∀j∈blks mB,H2.size<=j/\j≠b3),?_,?_⟩
  ·by_cases hm:Int.tmod i 32=0
   ·rw[if_pos hm]
    have hm':i % 32=0:=by rw[Int.tmod_eq_emod_of_nonneg hi.1]at hm;exact hm
    refine⟨_,_,_,by rw[aS gA];rfl,λb4 H9 hb4 hH9=>?_⟩
    have e9:=Ext.push' hH9
    refine cZ (ys:=lvs [0]) (ho.ext e9) (dH (aO hb4 hH9) _ 0 0 (λj hj=>by simp at hj;subst hj;rfl)) rfl (jQ _) rfl (by omega) ?_
    intro p' c' H10 ho10 f10 hnew
    have g10:H10[b3]?=_:=f10.get (λhh=>(hmB _ hh).2 rfl) (e9.get gA)
    obtain⟨s1,s2⟩:=mr g10 1 (.slice p' (mN+1) c') (by simp)
    refine⟨s1,λH11 hH11=>?_⟩
    obtain⟨g11,f11⟩:=s2 H11 hH11
    have e10:Ext H2 H10:=(eA.trans e9).fr_trans f10 (λj hj=>(hmB j hj).1)
    have hp': ∀j∈blks p',H2.size<=j/\j≠b3:=λj hj=>by
     rcases hnew j hj with h | h
     ·exact hmB j h
     ·have:=eA.size;have:=e9.size;have:=bI gA
      exact⟨by omega,by omega⟩
    refine⟨e10.fr_trans f11 (λj hj=>by simp at hj;omega),p',mN+1,c',ls++[0],g11,?_,by omega,by rw[hlen,pn (by omega)],hp'⟩
    have:=ho10.keep f11 (λj hj hh=>by simp at hh;exact(hp' j hj).2 hh)
    simpa[lvs]using this
   ·rw[if_neg hm]
    have hm':i % 32≠0:=by rw[Int.tmod_eq_emod_of_nonneg hi.1]at hm;exact hm
    exact⟨eA,mB,mN,mC,ls,gA,ho,by omega,hlen,hmB⟩
  clear ho hmN hlen hmB gA eA g1A
  rintro H7 ⟨eA,mB,mN,mC,ls,gA,ho,hmN,hlen,hmB⟩
  have g1A:=eA.get g1
  obtain⟨a,ha,hx⟩:=mu (hs.ext (e12.trans eA)) hin
  have hdiv:IntKind.wrap .i64 (Int.tdiv i 32)=i / 32:=by rw[Int.tdiv_eq_ediv_of_nonneg hi.1,w64 (by omega)]
  rw[hdiv]
  refine⟨_,_,_,by rw[aS g1A];rfl,a,ha,⟨hi.1,hlt⟩,_,hx,?_⟩
  rw[w64 (n:=i+1) (by omega)]
  by_cases h1:xs[i.toNat]=1
  ·rw[if_pos h1]
   have hll:ls.length=mN:=by rw[hlen];simp[gO]
   have hq:(i / 32).toNat<ls.length:=by omega
   have hbd:=qZ (n:=mN) hin (by omega)
   obtain⟨a5,ha5,hx5⟩:=jd ho.src (by omega)
   have hl5:=rowD hx5 hq
   subst ha5
   refine⟨_,_,_,by rw[aS gA];rfl,_,_,_,by rw[aS gA];rfl,a5,rfl,⟨by omega,by omega⟩,_,by rw[Nat.mul_one];exact hl5,Int.tmod_nonneg _ hi.1,a5,rfl,⟨by omega,by omega⟩,?_⟩
   rw[Nat.mul_one]
   obtain⟨s1,s2⟩:=ho.put (i:=(i / 32).toNat) (by omega) (.int .u32 (ior .u32 (ls.getD (i / 32).toNat 0) (ishl .u32 1 (Int.tmod i 32))))
   refine⟨s1,λH8 hH8=>?_⟩
   obtain⟨ho8,f8⟩:=s2 H8 hH8
   have hab:=hmB a5.block (by simp)
   refine⟨⟨by omega,eA.fr_trans f8 (λj hj=>by simp at hj;omega),some a5,mN,mC,ls.set (i / 32).toNat (ior .u32 (ls.getD (i / 32).toNat 0) (ishl .u32 1 (Int.tmod i 32))),f8.get (by simp;exact λhh=>hab.2 hh.symm) gA,?_,hmN,?_,hmB⟩,by show((n:Int)-(i+1)).toNat< ((n:Int)-i).toNat;omega⟩
   ·simpa[lvs,List.map_set]using ho8
   ·rw[show(i+1).toNat=i.toNat+1 by omega,mc hin (by omega),if_pos h1,<-hlen]
    rw[<-hlen]at hbd
    rw[show(i / 32).toNat=i.toNat / 32 by omega,Int.tmod_eq_emod_of_nonneg hi.1,show i % 32=((i.toNat % 32:Nat):Int)by omega,sK hbd (by omega)]
  ·rw[if_neg h1]
   have hst:=mc (n:=mN) hin (by omega)
   rw[if_neg h1,Int.add_zero,getD_at (by simp[gO];omega),List.set_getElem_self]at hst
   exact⟨⟨by omega,eA,mB,mN,mC,ls,gA,ho,hmN,by rw[show(i+1).toNat=i.toNat+1 by omega,hst];exact hlen,hmB⟩,by show((n:Int)-(i+1)).toNat< ((n:Int)-i).toNat;omega⟩
 ·rw[if_neg hlt]
  refine⟨_,_,_,_,bQ gA,?_⟩
  obtain⟨s1,s2⟩:=iH (vs:=[.bool neg,.slice mB mN mC]) (n:=2) (eA.get g2) rfl rfl
  refine⟨s1,λH12 hH12=>?_⟩
  obtain⟨g12,f12⟩:=s2 H12 hH12
  refine⟨_,_,_,_,bQ g12,hR _ _ ⟨neg,mB,mN,mC,ls,0,rfl,⟨by omega,λh=>absurd rfl h⟩,λ_=>⟨rfl,by rw[hlen];simp[gO],?_,by rw[hlen,hmN,show i.toNat=n by omega];rfl,λj hj=>by have:=(hmB j hj).1;have:=e12.size;omega⟩,(e12.trans eA).fr_trans f12 (λj hj=>by simp at hj;have:=e1.size;omega)⟩⟩
  exact(ho.keep f12 (λj hj hh=>by simp at hh;have:=(hmB j hj).1;omega)).src
theorem rg{H:zW}{neg:Bool}{mB:zY}{mN mC:Nat}{ls:List Int}(hs:cY H mB (lvs ls))(hn:mN=ls.length)(hb:mN<=1000)(hlm: ∀x∈ls,fM x):
  eZ.C neg mB mN mC H (λv H'=>(∃q:Bool,v=.bool q/\(q=true ↔ mayR neg ls=true))/\Ext H H'):=by
 refine HC.via λR hR=>eZ.link ?_
 unfold eZ.pt
 intro b H1 hb1 hH1
 have e1:=Ext.push' hH1
 have g1:=aO hb1 hH1
 refine⟨_,_,_,_,bQ g1,?_⟩
 refine HC.mono (jq (hs.ext e1) hn hb) ?_
 rintro _ H2 ⟨B,k,c,rfl,q1,q2,q3,q5,q4,e2⟩
 refine⟨_,_,_,_,rfl,?_⟩
 refine HC.mono (lQ q4 (by rw[List.length_take,jj];omega) (by omega)) ?_
 rintro _ H3 ⟨neg',mB',mN',mC',ls',e,rfl,⟨hbig,_⟩,hok,e3⟩
 refine⟨_,_,_,_,_,rfl,λb2 H4 hb2 hH4=>?_⟩
 have e123:=(e1.trans e2).trans e3
 obtain⟨r1,r2⟩:=fE (vs:=[.bool neg',.slice mB' mN' mC']) (n:=2) hb2 hH4 rfl rfl
 refine⟨r1,λH5 hH5=>?_⟩
 obtain⟨g5,e5⟩:=r2 H5 hH5
 have htop:k≠0->top ls=(k+31) / 32:=λhk=>by
  obtain⟨bit,hbit,hb0⟩:=q3 hk
  have hz:=ma hbit hb0
  have hle:=j1 ls
  have h1:(k-1) / 32<top ls:=by
   rcases Nat.lt_or_ge ((k-1) / 32) (top ls)with hh | hh
   ·exact hh
   ·exact absurd (jR ls _ hh) hz
  rcases Nat.lt_or_ge ((k-1) / 32+1) (top ls)with hh | hh
  case inr=>omega
  exfalso
  have hnz:ls.getD (top ls-1) 0≠0:=jG ls ls.length (show top ls≠0 by omega)
  have hlt:top ls-1<ls.length:=by omega
  have hc:=iK ls (top ls-1) hlt
  have hl:=ir (hlm _ (List.getElem_mem hlt))
  rw[getD_at hlt]at hc hnz
  rw[<-hc,iB (λb hb=>q5 b ?_)]at hl
  ·exact hnz hl.symm
  ·have hb2:=List.mem_of_mem_take hb
   have:32*(top ls-1)=k+(32*(top ls-1)-k):=by omega
   rw[this,<-List.drop_drop]at hb2
   exact List.mem_of_mem_drop hb2
 have hk0:k=0->top ls=0:=λhk=>by
  subst hk
  rcases Nat.eq_zero_or_pos (top ls)with h | h
  ·exact h
  exfalso
  have hle:=j1 ls
  have hnz:ls.getD (top ls-1) 0≠0:=jG ls ls.length (show top ls≠0 by omega)
  have hlt:top ls-1<ls.length:=by omega
  have hc:=iK ls (top ls-1) hlt
  have hl:=ir (hlm _ (List.getElem_mem hlt))
  rw[getD_at hlt]at hc hnz
  rw[<-hc,iB (l:=((bitsOf ls).drop (32*(top ls-1))).take 32) (λb hb=>q5 b (by rw[List.drop_zero];exact List.mem_of_mem_drop (List.mem_of_mem_take hb)))]at hl
  exact hnz hl.symm
 have hT:top ls=(k+31) / 32:=by
  by_cases hk:k=0
  ·rw[hk0 hk,hk]
  ·exact htop hk
 by_cases he:e=0
 ·rw[if_pos he]
  obtain⟨h2,h3,h4,h5,_⟩:=hok he
  refine⟨_,_,_,_,bQ g5,_,_,_,_,bQ ((e2.trans (e3.trans e5)).get g1),?_⟩
  have hl':ls'.length=(k+31) / 32:=by rw[h5,mb]
  refine HC.mono (m6 (h4.ext e5) h3 (hs.ext (e123.trans e5)) hn (by omega)) ?_
  rintro _ H6 ⟨rfl,e6⟩
  refine⟨_,rfl,hR _ _ ⟨⟨_,rfl,?_⟩,(e123.trans e5).trans e6⟩⟩
  have hk1:=hbig.1 he
  rw[decide_eq_true_eq]
  unfold mayR
  simp only[Bool.and_eq_true,decide_eq_true_eq,Bool.or_eq_true,Bool.not_eq_true']
  constructor
  ·rintro⟨a1,a2⟩
   have hls:ls.length=(k+31) / 32:=by rw[<-a2];exact hl'
   refine⟨by omega,by omega,?_⟩
   rw[<-a1,h2]
   by_cases hk:k=0
   ·left;simp[hk]
   ·right;omega
  ·rintro⟨a1,a2,a3⟩
   refine⟨?_,?_⟩
   ·rw[h2]
    cases neg with
    | false=>rfl
    | true=>simp at a3⊢;omega
   ·rw[h5];exact ng (λx hx=>hlm x hx) (by omega) q5
 ·rw[if_neg he]
  refine hR _ _ ⟨⟨_,rfl,?_⟩,e123.trans e5⟩
  have hk1: ¬k<=1536:=λh=>he (hbig.2 h)
  unfold mayR
  simp
  intro a1 a2
  omega
