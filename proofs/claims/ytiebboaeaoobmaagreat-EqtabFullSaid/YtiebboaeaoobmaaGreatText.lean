/-
 Strings, vectors on the heap (package obj): the contracts. Proves nothing of any one statement.
-/
import Derived.Test.YtiebboaeaoobmaaGreatPair
import Derived.Test.YtiebboaeaoobmaaGreatRow
import Derived.Test.YtiebboaeaoobmaaGreatFslices
import Derived.Laws.RangeAny
set_option linter.unusedVariables false
set_option linter.unusedSimpArgs false
namespace Go.Proofs.YtiebboaeaoobmaaGreat
open Go

theorem mz(s:ByteArray)(pos:Nat):1<=(Utf8.decode s pos).2:=by
 unfold Utf8.decode
 simp only[]
 repeat' split
 all_goals simp
def runesFrom(s:ByteArray):Nat->Nat->List Int
 | 0,_=> []
 | f+1,pos=>if pos<s.size then((Utf8.decode s pos).1:Int)::runesFrom s f (pos+(Utf8.decode s pos).2)else[]
theorem jY(s:ByteArray): ∀(f g pos:Nat),s.size<=pos+f->s.size<=pos+g->runesFrom s f pos=runesFrom s g pos
 | 0,0,_,_,_=>rfl
 | 0,g+1,pos,h,_=>by simp only[runesFrom];rw[if_neg (by omega)]
 | f+1,0,pos,_,h=>by simp only[runesFrom];rw[if_neg (by omega)]
 | f+1,g+1,pos,h1,h2=>by
  have:=mz s pos
  simp only[runesFrom]
  by_cases hp:pos<s.size
  ·rw[if_pos hp,if_pos hp,jY s f g _ (by omega) (by omega)]
  ·rw[if_neg hp,if_neg hp]
def jI(s:ByteArray)(pos:Nat):List Int:=runesFrom s (s.size-pos) pos
def gZ(s:ByteArray):List Int:=jI s 0
theorem nX{s:ByteArray}{pos:Nat}(h:pos<s.size):jI s pos=((Utf8.decode s pos).1:Int)::jI s (pos+(Utf8.decode s pos).2):=by
 have hd:=mz s pos
 unfold jI
 rw[show s.size-pos=(s.size-pos-1)+1 by omega]
 simp only[runesFrom]
 rw[if_pos h,jY s _ (s.size-(pos+(Utf8.decode s pos).2)) _ (by omega) (by omega)]
theorem oL{s:ByteArray}{pos:Nat}(h: ¬pos<s.size):jI s pos=[]:=by
 unfold jI;rw[show s.size-pos=0 by omega];rfl
theorem qJ(s:ByteArray)(pos:Nat):aG ((Utf8.decode s pos).1:Int):=by
 have:=decode_le s pos
 exact⟨by omega,by omega⟩
theorem jZ(s:ByteArray): ∀(f pos:Nat),∀r∈runesFrom s f pos,0<=r/\r<=2147483647
 | 0,_,r,h=>by simp[runesFrom]at h
 | f+1,pos,r,h=>by
  simp only[runesFrom]at h
  by_cases hp:pos<s.size
  ·rw[if_pos hp]at h
   rcases List.mem_cons.1 h with rfl | h
   ·have:=decode_le s pos;omega
   ·exact jZ s f _ r h
  ·rw[if_neg hp]at h;simp at h
theorem kZ(s:ByteArray): ∀r∈gZ s,aG r:=λr h=>by
 have:=jZ s _ _ r h
 exact⟨by omega,by omega⟩
def strR(o:Option (Blk×Hp))(s:ByteArray):Int×Int:=if 62< (gZ s).length then(0,6)else iK o 2 0 (gZ s)
def strO(o:Option (Blk×Hp))(s:ByteArray):Option (Blk×Hp):=if 62< (gZ s).length then o else iO o 2 0 (gZ s)
theorem nY{H:zV}{hv:zW}{o:Option (Blk×Hp)}{s:ByteArray}(V:View H hv o)(hc:nq o):
  dt.C hv s H (λv H'=>v=.tuple #[.int .u64 (strR o s).1,.int .i64 (strR o s).2]/\View H' hv (strO o s)/\Fr (own o) H H'):=by
 refine HC.via λR hR=>dt.link ?_
 unfold dt.pt
 intro b H1 hb hH1
 have e1:Ext H H1:=Ext.push' hH1
 refine⟨λp n c H'=> ∃(pos:Nat) (rs:List Int),H'[b]?=some (.stringIter s pos)/\gZ s=rs++jI s pos/\Own H' 31 1 p n c (wvs rs)/\n=rs.length/\n<=62/\Ext H H'/\(∀i,i∈blks p->H.size<=i/\i≠b)/\b<H'.size,λ_ n _ _=>63-n,⟨0,[],aF hb hH1,rfl,iS,rfl,by omega,e1,by simp,aY (aF hb hH1)⟩,?_⟩
 rintro p n c H2 ⟨pos,rs,hit,hrs,how,hn,hle,e2,hbk,hb2⟩
 subst hn
 refine⟨s,pos,hit,?_⟩
 by_cases hp:pos<s.size
 case neg=>
  rw[if_neg hp]
  rw[oL hp,List.append_nil]at hrs
  refine HC.mono (kG (ws:=rs) (V.ext e2) how.src rfl (by rw[<-hrs];exact kZ s) (by decide) (by decide) hc (by omega)) ?_
  rintro _ H3 ⟨rfl,V3,f3⟩
  have hno: ¬62< (gZ s).length:=by rw[hrs];omega
  refine⟨_,_,rfl,hR _ _ ⟨?_,?_,e2.fr.trans f3⟩⟩
  ·unfold strR;rw[if_neg hno,hrs]
  ·unfold strO;rw[if_neg hno,hrs];exact V3
 rw[if_pos hp]
 intro H3 hH3 b4 H4 hb4 hH4
 have hw:=qJ s pos
 rw[wu64 (n:=((Utf8.decode s pos).1:Int)) (by have:=hw.2;omega)]at hH4
 have f3:Fr [b] H2 H3:=by rw[hH3];exact Fr.set
 have e4:Ext H3 H4:=Ext.push' hH4
 have hs3:H3.size=H2.size:=by rw[hH3];simp
 have how4:=(how.keep f3 (λi hi=>by have:=(hbk i hi).2;simp;exact this)).ext e4
 have e13:Ext H H3:=e2.fr_trans f3 (λi hi=>by simp at hi;omega)
 have hit3:H3[b]?=some (.stringIter s (pos+(Utf8.decode s pos).2)):=by rw[hH3];exact bJ hb2
 refine fi (ys:=wvs [((Utf8.decode s pos).1:Int)]) how4 (eC (aF hb4 hH4) _ 0 0 (λj hj=>by simp)) (by simp) (ji _) rfl (by omega) ?_
 intro p' c' H5 how5 f5 hnew
 have e45:Ext H H5:=(e13.trans e4).fr_trans f5 (λi hi=>(hbk i hi).1)
 rw[nX hp]at hrs
 by_cases h62:(rs.length:Int)+1>62
 ·rw[if_pos h62]
  have hmany:62< (gZ s).length:=by rw[hrs];simp;omega
  refine hR _ _ ⟨?_,?_,e45.fr⟩
  ·unfold strR;rw[if_pos hmany]
  ·unfold strO;rw[if_pos hmany];exact V.ext e45
 ·rw[if_neg h62]
  have hit5:H5[b]?=some (.stringIter s (pos+(Utf8.decode s pos).2)):=f5.get (λhi=>(hbk b hi).2 rfl) (e4.get hit3)
  refine⟨⟨_,rs++[((Utf8.decode s pos).1:Int)],hit5,by rw[hrs];simp,by simpa[wvs]using how5,by simp,by omega,e45,λi hi=>?_,aY hit5⟩,by show 63-(rs.length+1)<63-rs.length;omega⟩
  rcases hnew i hi with h | h
  ·exact hbk i h
  ·have:=e4.size;exact⟨by have:=e13.size;omega,by omega⟩

def tQ(o:Option (Blk×Hp)):Option (Blk×Hp):=match o with | none=>none | some (b,x)=>some (b,{x with ep:=IntKind.wrap .u64 (x.ep+1)})
def epO(o:Option (Blk×Hp)):Int:=match o with | none=>0 | some (_,x)=>x.ep
def hown(o:Option (Blk×Hp)):List Nat:=match o with | none=> [] | some (b,_)=> [b.h]
theorem HpAt.epAt{H:zV}{b:Blk}{x:Hp}(h:HpAt H b x):hat H ⟨b.h,3,none⟩=some (.int .u64 x.ep):=by rw[aK h.h];rfl
theorem HpAt.putEp{H:zV}{b:Blk}{x:Hp}(h:HpAt H b x)(e:Int):aJ H ⟨b.h,3,none⟩ 0 1/\HpAt (aP H ⟨b.h,3,none⟩ [.int .u64 e] 0) b {x with ep:=e}/\Fr [b.h] H (aP H ⟨b.h,3,none⟩ [.int .u64 e] 0):=by
 refine⟨db h.h _ _ _ (by simp),?_⟩
 rw[dD _ _ _ _ _ h.h]
 have f:Fr [b.h] H (aV H b.h (.cells (splice #[.pointer (some ⟨b.c,0,none⟩),x.sy,x.en,.int .u64 x.ep] (3+0) [.int .u64 e]) 87 (0,0))):=Fr.set
 refine⟨⟨h.cd.keep f ?_ ?_ ?_ ?_,h.ne,by rw[bJ (aY h.h)];rfl⟩,f⟩<;>have:=h.ne<;>simp<;>omega
theorem pw{H:zV}{hv:zW}{o:Option (Blk×Hp)}(V:View H hv o):eW.C hv H (λv H'=>View H' hv (tQ o)/\Fr (hown o) H H'):=by
 refine HC.via λR hR=>eW.link ?_
 unfold eW.pt
 refine HC.mono (jG V) ?_
 rintro _ H1 ⟨rfl,rfl⟩
 refine⟨_,rfl,?_⟩
 cases V with
 | nobody=>rw[if_pos (show(none:Option (Blk×Hp)).isNone=true from rfl)];exact hR _ _ ⟨.nobody,Fr.refl _ _⟩
 | empty h=>rw[if_pos (show(none:Option (Blk×Hp)).isNone=true from rfl)];exact hR _ _ ⟨.empty h,Fr.refl _ _⟩
 | @real b x h ok=>
  rw[if_neg (show ¬(some (b,x)).isNone=true from Bool.false_ne_true)]
  obtain⟨h1,h2⟩:=h.putEp (IntKind.wrap .u64 (x.ep+1))
  refine⟨_,rfl,_,by rw[addr_add_mk];exact h.epAt,by rw[addr_add_mk];exact h1,λH2 hH2=>?_⟩
  rw[addr_add_mk]at hH2
  subst hH2
  exact hR _ _ ⟨.real h2.1 ok,h2.2⟩
theorem lH{H:zV}{hv:zW}{o:Option (Blk×Hp)}(V:View H hv o):dM.C hv H (λv H'=>v=.int .u64 (epO o)/\H'=H):=by
 refine HC.via λR hR=>dM.link ?_
 unfold dM.pt
 refine HC.mono (jG V) ?_
 rintro _ H1 ⟨rfl,rfl⟩
 refine⟨_,rfl,?_⟩
 cases V with
 | nobody=>rw[if_pos (show(none:Option (Blk×Hp)).isNone=true from rfl)];exact hR _ _ ⟨rfl,rfl⟩
 | empty h=>rw[if_pos (show(none:Option (Blk×Hp)).isNone=true from rfl)];exact hR _ _ ⟨rfl,rfl⟩
 | @real b x h ok=>
  rw[if_neg (show ¬(some (b,x)).isNone=true from Bool.false_ne_true)]
  exact⟨_,rfl,_,by rw[addr_add_mk];exact h.epAt,hR _ _ ⟨rfl,rfl⟩⟩

def Mem.objWords(m:Mem)(w:Int):List Int:=(List.range (m.len w).toNat).map λ(i:Nat)=>m.get (w / 8+1+(i:Int))
theorem Mem.objWords_len(m:Mem)(w:Int):(m.objWords w).length=(m.len w).toNat:=by unfold Mem.objWords;simp
theorem Mem.objWords_get(m:Mem)(w:Int){i:Nat}(h:i< (m.objWords w).length):(m.objWords w)[i]=m.get (w / 8+1+(i:Int)):=by simp[Mem.objWords]
theorem dA.words{m:Mem}{w kind more:Int}{ws:List Int}(h:dA m w kind more ws):m.objWords w=ws:=by
 refine List.ext_getElem (by rw[Mem.objWords_len,h.len];omega) λi h1 h2=>?_
 rw[Mem.objWords_get]
 exact h.get i h2
theorem px{H:zV}{x y:Int}(hx:0<=x/\x<4294967296)(hy:0<=y/\y<4294967296):eV.C x y H (λv H'=>v=.tuple #[.int .u64 0,.int .u64 (x*y)]/\H'=H):=by
 refine HC.via λR hR=>eV.link ?_
 unfold eV.pt
 have hxy:0<=x*y:=Int.mul_nonneg hx.1 hy.1
 have hxy2:x*y<=4294967295*4294967295:=Int.mul_le_mul (by omega) (by omega) hy.1 (by omega)
 have s1:ishr .u64 x 32=0:=by rw[hM 32 32 rfl (by decide)];omega
 have s2:ishr .u64 y 32=0:=by rw[hM 32 32 rfl (by decide)];omega
 have m1:iand .u64 x 4294967295=x:=by rw[jv 32 (by decide) ⟨by omega,by omega⟩ _ (by decide)];omega
 have m2:iand .u64 y 4294967295=y:=by rw[jv 32 (by decide) ⟨by omega,by omega⟩ _ (by decide)];omega
 refine eE.link ?_
 unfold eE.pt
 rw[s1,s2,m1,m2]
 refine⟨_,_,rfl,hR _ _ ⟨?_,rfl⟩⟩
 simp only[Int.zero_mul,Int.mul_zero,wu64 (n:=x*y) ⟨hxy,by omega⟩,wu64 (n:=(0:Int)) (by omega),Int.zero_add,Int.add_zero]
 have h1:ishr .u64 (x*y) 32=x*y / 4294967296:=by rw[hM 32 32 rfl (by decide)];rfl
 have hq:0<=x*y / 4294967296/\x*y / 4294967296<4294967296:=by omega
 rw[h1,wu64 (n:=x*y / 4294967296) (by omega)]
 have h2:ishr .u64 (x*y / 4294967296) 32=0:=by rw[hM 32 32 rfl (by decide)];omega
 have h3:iand .u64 (x*y / 4294967296) 4294967295=x*y / 4294967296:=by rw[jv 32 (by decide) ⟨by omega,by omega⟩ _ (by decide)];omega
 rw[h2,h3,wu64 (n:=x*y / 4294967296) (by omega),h2]
 rfl
theorem lr{H:zV}{p:zW}{v:Int}{n:Int}(hn:0<=n/\n<=100000)(hs:eN H p [.int .u64 v]):
  aZ.C p 1 1 n H (λu H'=> ∃b:Nat,H.size<=b/\u=.slice (some ⟨b,0,none⟩) n.toNat n.toNat/\Own H' 31 1 (some ⟨b,0,none⟩) n.toNat n.toNat (List.replicate n.toNat (.int .u64 v))/\Ext H H'):=by
 refine HC.via λR hR=>aZ.link ?_
 unfold aZ.pt zY
 rw[if_neg (by omega),wu64 (n:=((1:Nat):Int)) (by omega),wu64 (n:=n) (by omega)]
 refine HC.mono (px (by omega) (by omega)) ?_
 rintro _ H1 ⟨rfl,rfl⟩
 refine⟨_,_,rfl,?_⟩
 rw[show((1:Nat):Int)*n=n by omega,if_neg (by simp;omega),w64 (n:=n) (by omega)]
 refine⟨by omega,by omega,by omega,by omega,λb H2 hb hH2=>?_⟩
 have e2:Ext H1 H2:=Ext.push' hH2
 have hs2:=hs.ext e2
 have ho:=rF hb hH2
 cases p with
 | none=>simp at hs
 | some a=>
  have hm:Nat.min 1 n.toNat=min 1 n.toNat:=rfl
  refine⟨List.replicate (min 1 n.toNat) (.int .u64 v),?_,λ_=>by rw[hm];simp,iz rfl _,?_⟩
  ·by_cases h0:n.toNat=0
   ·rw[h0];exact trivial
   ·rw[Nat.min_eq_left (by omega)];exact hs2
  rw[onPtr_some,hm]
  obtain⟨h3,h4⟩:=ho.puts (o:=0) (vs:=List.replicate (min 1 n.toNat) (.int .u64 v)) (by simp;omega)
  have e0:Addr.add ⟨b,0,none⟩ 0=⟨b,0,none⟩:=by simp
  rw[e0]at h3 h4
  refine⟨h3,?_⟩
  obtain⟨h5,h6⟩:=h4 _ rfl
  rw[List.take_zero,List.nil_append,List.length_replicate,Nat.zero_add,List.drop_replicate]at h5
  have hb0:H1.size<=b:=by omega
  refine oK (v:=.int .u64 v) (z:=.int .u64 0) rfl h5 (by omega) (λ_=>by omega) (by omega) hb0 (e2.fr_trans h6 (λi hi=>by simp at hi;omega)) ?_
  intro H' ho' e'
  exact hR _ _ ⟨b,hb0,rfl,ho',e'⟩
def vecR(o:Option (Blk×Hp))(n fill:Int):Int×Int:=if n<0 then(0,4)else if 62<n then(0,6)else iK o 1 0 (List.replicate n.toNat fill)
def vecO(o:Option (Blk×Hp))(n fill:Int):Option (Blk×Hp):=if n<0\/62<n then o else iO o 1 0 (List.replicate n.toNat fill)
theorem nZ{H:zV}{hv:zW}{o:Option (Blk×Hp)}{n fill:Int}(V:View H hv o)(hf:aG fill)(hc:nq o):
  du.C hv n fill H (λv H'=>v=.tuple #[.int .u64 (vecR o n fill).1,.int .i64 (vecR o n fill).2]/\View H' hv (vecO o n fill)/\Fr (own o) H H'):=by
 refine HC.via λR hR=>du.link ?_
 unfold du.pt
 by_cases h1:n<0
 ·rw[if_pos h1]
  exact hR _ _ ⟨by unfold vecR;rw[if_pos h1],by unfold vecO;rw[if_pos (.inl h1)];exact V,Fr.refl _ _⟩
 rw[if_neg h1]
 by_cases h2:n>62
 ·rw[if_pos h2]
  exact hR _ _ ⟨by unfold vecR;rw[if_neg h1,if_pos h2],by unfold vecO;rw[if_pos (.inr h2)];exact V,Fr.refl _ _⟩
 rw[if_neg h2]
 intro b H1 hb hH1
 have e1:Ext H H1:=Ext.push' hH1
 refine HC.mono (lr (v:=fill) ⟨by omega,by omega⟩ (eC (aF hb hH1) _ 0 0 (λj hj=>by simp))) ?_
 rintro _ H2 ⟨b2,hb2,rfl,ho,e2⟩
 refine⟨_,_,_,rfl,?_⟩
 have hw: ∀w∈List.replicate n.toNat fill,aG w:=λw hw=>by rw[List.eq_of_mem_replicate hw];exact hf
 refine HC.mono (kG (ws:=List.replicate n.toNat fill) (V.ext (e1.trans e2)) (by have:=ho.src;simpa[wvs]using this) (by simp) hw (by decide) (by decide) hc (by simp;omega)) ?_
 rintro _ H3 ⟨rfl,V3,f3⟩
 refine⟨_,_,rfl,hR _ _ ⟨?_,?_,(e1.trans e2).fr.trans f3⟩⟩
 ·unfold vecR;rw[if_neg h1,if_neg h2]
 ·unfold vecO;rw[if_neg (by omega)];exact V3
