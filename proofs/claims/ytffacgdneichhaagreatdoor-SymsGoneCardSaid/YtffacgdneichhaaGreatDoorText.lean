/-
 Rows of cells with a block of their own: laid by make, written, read in part; slices.Repeat's loop. Proves nothing of any one program.
-/
import Derived.Test.YtffacgdneichhaaGreatDoorPair
import Derived.Laws.RangeAny
set_option linter.unusedVariables false
set_option linter.unusedSimpArgs false
namespace Go.Proofs.YtffacgdneichhaaGreatDoor
open Go

theorem qJ{H H':zV}{T:TypeId}{z:Value}{n b:Nat}(hb:b=H.size)(hH:H'=H.push (.cells (Builtin.zeroCells #[z] n) T)):Own H' T 1 (some ⟨b,0,none⟩) n n (List.replicate n z):=by
 refine⟨rfl,_,aL hb hH,by rw[iz];rfl,Nat.le_refl _,by simp,λj hj=>?_⟩
 have:=jB (z:= #[z]) (n:=n) (k:=j) (j:=0) (by omega) (by simp)
 simp only[List.size_toArray,List.length_singleton,Nat.mul_one,Nat.add_zero]at this
 rw[this,List.getElem?_replicate,if_pos (by omega)];rfl
theorem Own.put{H:zV}{T:TypeId}{n c i:Nat}{a:Addr}{xs:List Value}(h:Own H T 1 (some a) n c xs)(hi:i<n)(v:Value):
  aI H (a.add i) 0 1/\ ∀H',H'=aO H (a.add i) [v] 0->Own H' T 1 (some a) n c (xs.set i v)/\Fr [a.block] H H':=by
 obtain⟨ha,cs,hb,hs,hn,hl,hc⟩:=h
 have ea:a.add i=⟨a.block,i,none⟩:=by rw[ha];simp
 rw[ea]
 refine⟨bS hb _ _ _ (by omega),λH' hH'=>?_⟩
 rw[cR _ H cs i 0 hb]at hH'
 subst hH'
 refine⟨⟨ha,_,bA (bB hb),by rw[splice_size];exact hs,hn,by rw[List.length_set];exact hl,λj hj=>?_⟩,Fr.set⟩
 rw[List.getElem?_set]
 by_cases hij:i=j
 ·subst hij
  rw[if_pos rfl,if_pos (by omega)]
  have:=dm cs [v] (i+0) 0 (by simp;omega) (by simp)
  simpa using this
 ·rw[if_neg hij,<-hc j hj]
  rcases Nat.lt_or_ge j i with h | h
  ·exact cQ _ _ _ _ (by omega)
  ·exact dP _ _ _ _ (by simp;omega)
theorem Own.puts{H:zV}{T:TypeId}{sz n c o:Nat}{a:Addr}{xs vs:List Value}(h:Own H T sz (some a) n c xs)(ho:o+vs.length<=n*sz):
  aI H (a.add o) 0 vs.length/\ ∀H',H'=aO H (a.add o) vs 0->Own H' T sz (some a) n c (xs.take o++vs++xs.drop (o+vs.length))/\Fr [a.block] H H':=by
 obtain⟨ha,cs,hb,hs,hn,hl,hc⟩:=h
 have hle:n*sz<=c*sz:=Nat.mul_le_mul_right _ hn
 have ea:a.add o=⟨a.block,o,none⟩:=by rw[ha];simp
 rw[ea]
 refine⟨bS hb _ _ _ (by omega),λH' hH'=>?_⟩
 rw[cR _ H cs o 0 hb]at hH'
 subst hH'
 refine⟨⟨ha,_,bA (bB hb),by rw[splice_size];exact hs,hn,by simp;omega,λj hj=>?_⟩,Fr.set⟩
 rw[Nat.add_zero]
 rcases Nat.lt_or_ge j o with h1 | h1
 ·rw[cQ _ _ _ _ h1,hc j hj,List.append_assoc,List.getElem?_append_left (by simp;omega),List.getElem?_take,if_pos h1]
 rcases Nat.lt_or_ge j (o+vs.length)with h2 | h2
 ·have e:=dm cs vs o (j-o) (by omega) (by omega)
  rw[show o+(j-o)=j by omega]at e
  rw[e,List.append_assoc,List.getElem?_append_right (by simp;omega),List.length_take,Nat.min_eq_left (by omega),List.getElem?_append_left (by omega)]
 ·rw[dP _ _ _ _ h2,hc j hj,List.getElem?_append_right (by simp;omega),List.getElem?_drop]
  simp only[List.length_append,List.length_take]
  rw[Nat.min_eq_left (by omega)]
  congr 1;omega
theorem Own.part{H:zV}{T:TypeId}{sz n c o k:Nat}{a:Addr}{xs:List Value}(h:Own H T sz (some a) n c xs):aU H (a.add o) 0 ((xs.drop o).take k):=by
 refine iP λj v hv=>?_
 have hv2:xs[o+j]?=some v:=by
  rw[List.getElem?_take]at hv
  split at hv
  ·rw[List.getElem?_drop]at hv;exact hv
  ·cases hv
 obtain⟨a',he,hh⟩:=h.at hv2
 cases he
 rw[Nat.zero_add]
 obtain⟨ha,_⟩:=h
 rw[ha]at hh⊢
 simpa using hh
theorem flat_get{α:Type}{f:α->List Value}{sz:Nat}(hf: ∀a,(f a).length=sz): ∀(l:List α) (k r:Nat) (hk:k<l.length),r<sz->(l.flatMap f)[k*sz+r]?=(f l[k])[r]?
 | [],k,r,hk,hr=>by simp at hk
 | a::l,0,r,hk,hr=>by
  simp only[List.flatMap_cons,Nat.zero_mul,Nat.zero_add,List.getElem_cons_zero]
  rw[List.getElem?_append_left (by rw[hf];exact hr)]
 | a::l,k+1,r,hk,hr=>by
  simp only[List.flatMap_cons,List.getElem_cons_succ]
  rw[List.getElem?_append_right (by rw[hf,Nat.add_mul];omega),hf,show(k+1)*sz+r-sz=k*sz+r by rw[Nat.add_mul];omega]
  exact flat_get hf l k r (by simpa using hk) hr
theorem Own.elem{α:Type}{f:α->List Value}{H:zV}{T:TypeId}{sz n c:Nat}{p:zW}{l:List α}(h:Own H T sz p n c (l.flatMap f))(hf: ∀a,(f a).length=sz)(h0:0<sz){k:Nat}(hk:k<l.length):
  ∃a,p=some a/\(∀r v,(f l[k])[r]?=some v->hat H ((a.add (k*sz)).add r)=some v)/\aU H (a.add (k*sz)) 0 (f l[k]):=by
 have hc0: ∃v,(f l[k])[0]?=some v:=⟨(f l[k])[0]'(by rw[hf];exact h0),by simp⟩
 obtain⟨v0,hv0⟩:=hc0
 have e0:=flat_get hf l k 0 hk h0
 rw[hv0,Nat.add_zero]at e0
 obtain⟨a,ha,_⟩:=h.at e0
 subst ha
 have hadd: ∀r,(a.add (k*sz)).add r=a.add (k*sz+r):=λr=>by rw[h.1];simp
 have hr: ∀r v,(f l[k])[r]?=some v->hat H ((a.add (k*sz)).add r)=some v:=λr v hv=>by
  have hlt:r<sz:=by
   rcases Nat.lt_or_ge r (f l[k]).length with hh | hh
   ·rw[hf]at hh;exact hh
   ·simp[List.getElem?_eq_none hh]at hv
  have e:=flat_get hf l k r hk hlt
  rw[hv]at e
  obtain⟨a',ha',hh⟩:=h.at e
  cases ha'
  rw[hadd];exact hh
 exact⟨a,rfl,hr,iP λj v hv=>by rw[Nat.zero_add];exact hr j v hv⟩
theorem gW(a:Addr)(i j:Nat):(a.add i).add j=a.add (i+j):=by
 by_cases hi:i=0<;>by_cases hj:j=0<;>simp[Addr.add,hi,hj,Nat.add_assoc]
theorem kl{cs:Array Value}{vs:List Value}(h:cs.size=vs.length):splice cs 0 vs=vs.toArray:=by
 refine Array.ext_getElem? λi=>?_
 have e:vs.toArray[i]?=vs[i]?:=by simp
 rw[e]
 rcases Nat.lt_or_ge i vs.length with hi | hi
 ·have:=dm cs vs 0 i (by omega) hi
  rw[Nat.zero_add]at this;exact this
 ·rw[List.getElem?_eq_none hi,Array.getElem?_eq_none (by rw[splice_size];omega)]
theorem rG{H H1:zV}{b n:Nat}{cs:Array Value}{T:TypeId}{vs:List Value}(hb:b=H.size)(hH:H1=H.push (.cells cs T))(hn:cs.size=n)(hv:vs.length=n):
  aI H1 ⟨b,0,none⟩ 0 n/\ ∀H2,H2=aO H1 ⟨b,0,none⟩ vs 0->H2[b]?=some (.cells vs.toArray T (0,0))/\Ext H H2:=by
 have g:=aL hb hH
 refine⟨bS g n 0 0 (by omega),λH2 h2=>?_⟩
 rw[cR vs H1 cs 0 0 g,Nat.add_zero,kl (by omega)]at h2
 subst h2
 exact⟨bA (bB g),(Ext.push' hH).set (by omega)⟩
theorem lk{H:zV}{b:Nat}{cs:Array Value}{T:TypeId}(g:H[b]?=some (.cells cs T (0,0)))(o:Nat)(v:Value)(ho:o<cs.size):
  aI H ((Addr.mk b 0 none).add o) 0 1/\ ∀H1,H1=aO H ((Addr.mk b 0 none).add o) [v] 0->H1[b]?=some (.cells (cs.setIfInBounds o v) T (0,0))/\Fr [b] H H1:=by
 rw[addr_add_mk,Nat.zero_add]
 refine⟨bS g 1 o 0 (by omega),λH1 h1=>?_⟩
 rw[cR _ H cs o 0 g]at h1
 subst h1
 exact⟨bA (bB g),Fr.set⟩
theorem gq{H:zV}{b:Nat}{cs:Array Value}{T:TypeId}{fz:Nat×Nat}(g:H[b]?=some (.cells cs T fz))(o:Nat):hat H ((Addr.mk b 0 none).add o)=cs[o]?:=by
 rw[addr_add_mk,Nat.zero_add];exact aT g
theorem aU.sub{H:zV}{a:Addr}{vs us:List Value}(k:Nat)(h:aU H a 0 vs)(e:(vs.drop k).take us.length=us):aU H (a.add k) 0 us:=by
 refine iP λj v hv=>?_
 have hj:vs[k+j]?=some v:=by
  rw[<-e,List.getElem?_take]at hv
  split at hv
  ·rw[List.getElem?_drop]at hv;exact hv
  ·cases hv
 have:=fB h (k+j) v hj
 rw[gW,Nat.zero_add]
 rw[Nat.zero_add]at this;exact this
theorem iF{H:zV}{b n:Nat}{cs:Array Value}{T:TypeId}{vs:List Value}(g:H[b]?=some (.cells cs T (0,0)))(hn:cs.size=n)(hv:vs.length=n):
  aI H ⟨b,0,none⟩ 0 n/\ ∀H2,H2=aO H ⟨b,0,none⟩ vs 0->H2[b]?=some (.cells vs.toArray T (0,0))/\Fr [b] H H2:=by
 refine⟨bS g n 0 0 (by omega),λH2 h2=>?_⟩
 rw[cR vs H cs 0 0 g,Nat.add_zero,kl (by omega)]at h2
 subst h2
 exact⟨bA (bB g),Fr.set⟩
theorem oO(a:Addr):a.add 0=a:=by unfold Addr.add;cases a;split<;>simp_all

theorem jQ(s:ByteArray)(pos:Nat):1<=(Utf8.decode s pos).2:=by
 unfold Utf8.decode
 simp only[]
 repeat' split
 all_goals simp
def runesFrom(s:ByteArray):Nat->Nat->List Int
 | 0,_=> []
 | f+1,pos=>if pos<s.size then((Utf8.decode s pos).1:Int)::runesFrom s f (pos+(Utf8.decode s pos).2)else[]
theorem jq(s:ByteArray): ∀(f g pos:Nat),s.size<=pos+f->s.size<=pos+g->runesFrom s f pos=runesFrom s g pos
 | 0,0,_,_,_=>rfl
 | 0,g+1,pos,h,_=>by simp only[runesFrom];rw[if_neg (by omega)]
 | f+1,0,pos,_,h=>by simp only[runesFrom];rw[if_neg (by omega)]
 | f+1,g+1,pos,h1,h2=>by
  have:=jQ s pos
  simp only[runesFrom]
  by_cases hp:pos<s.size
  ·rw[if_pos hp,if_pos hp,jq s f g _ (by omega) (by omega)]
  ·rw[if_neg hp,if_neg hp]
def fe(s:ByteArray)(pos:Nat):List Int:=runesFrom s (s.size-pos) pos
def aX(s:ByteArray):List Int:=fe s 0
theorem gO{s:ByteArray}{pos:Nat}(h:pos<s.size):fe s pos=((Utf8.decode s pos).1:Int)::fe s (pos+(Utf8.decode s pos).2):=by
 have hd:=jQ s pos
 unfold fe
 rw[show s.size-pos=(s.size-pos-1)+1 by omega]
 simp only[runesFrom]
 rw[if_pos h,jq s _ (s.size-(pos+(Utf8.decode s pos).2)) _ (by omega) (by omega)]
theorem gD{s:ByteArray}{pos:Nat}(h: ¬pos<s.size):fe s pos=[]:=by
 unfold fe;rw[show s.size-pos=0 by omega];rfl
theorem p7(s:ByteArray)(pos:Nat):aJ ((Utf8.decode s pos).1:Int):=by
 have:=decode_le s pos
 exact⟨by omega,by omega⟩
theorem jr(s:ByteArray): ∀(f pos:Nat),∀r∈runesFrom s f pos,0<=r/\r<=2147483647
 | 0,_,r,h=>by simp[runesFrom]at h
 | f+1,pos,r,h=>by
  simp only[runesFrom]at h
  by_cases hp:pos<s.size
  ·rw[if_pos hp]at h
   rcases List.mem_cons.1 h with rfl | h
   ·have:=decode_le s pos;omega
   ·exact jr s f _ r h
  ·rw[if_neg hp]at h;simp at h
theorem iX(s:ByteArray): ∀r∈aX s,aJ r:=λr h=>by
 have:=jr s _ _ r h
 exact⟨by omega,by omega⟩
theorem jG(s:ByteArray): ∀(f pos:Nat),(runesFrom s f pos).length<=f
 | 0,_=>Nat.le_refl _
 | f+1,pos=>by
  simp only[runesFrom]
  by_cases hp:pos<s.size
  ·rw[if_pos hp];simp;exact jG s f _
  ·rw[if_neg hp];simp

def strR(o:Option (Blk×Hp))(s:ByteArray):Int×Int:=if 62< (aX s).length then(0,6)else fV o 2 0 (aX s)
def strO(o:Option (Blk×Hp))(s:ByteArray):Option (Blk×Hp):=if 62< (aX s).length then o else ga o 2 0 (aX s)
theorem km{H:zV}{hv:zW}{o:Option (Blk×Hp)}{s:ByteArray}(V:View H hv o)(hc:qH o):
  cM.C hv s H (λv H'=>v=.tuple #[.int .u64 (strR o s).1,.int .i64 (strR o s).2]/\View H' hv (strO o s)/\Fr (own o) H H'):=by
 refine HC.via λR hR=>cM.link ?_
 unfold cM.pt
 intro b H1 hb hH1
 have e1:Ext H H1:=Ext.push' hH1
 refine⟨λp n c H'=> ∃(pos:Nat) (rs:List Int),H'[b]?=some (.stringIter s pos)/\aX s=rs++fe s pos/\Own H' 33 1 p n c (wvs rs)/\n=rs.length/\n<=62/\Ext H H'/\(∀i,i∈blks p->H.size<=i/\i≠b)/\b<H'.size,λ_ n _ _=>63-n,⟨0,[],aL hb hH1,rfl,gJ,rfl,by omega,e1,by simp,bB (aL hb hH1)⟩,?_⟩
 rintro p n c H2 ⟨pos,rs,hit,hrs,how,hn,hle,e2,hbk,hb2⟩
 subst hn
 refine⟨s,pos,hit,?_⟩
 by_cases hp:pos<s.size
 case neg=>
  rw[if_neg hp]
  rw[gD hp,List.append_nil]at hrs
  refine HC.mono (jP (ws:=rs) (V.ext e2) how.src rfl (by rw[<-hrs];exact iX s) (by decide) (by decide) hc (by omega)) ?_
  rintro _ H3 ⟨rfl,V3,f3⟩
  have hno: ¬62< (aX s).length:=by rw[hrs];omega
  refine⟨_,_,rfl,hR _ _ ⟨?_,?_,e2.fr.trans f3⟩⟩
  ·unfold strR;rw[if_neg hno,hrs]
  ·unfold strO;rw[if_neg hno,hrs];exact V3
 rw[if_pos hp]
 intro H3 hH3 b4 H4 hb4 hH4
 have hw:=p7 s pos
 rw[wu64 (n:=((Utf8.decode s pos).1:Int)) (by have:=hw.2;omega)]at hH4
 have f3:Fr [b] H2 H3:=by rw[hH3];exact Fr.set
 have e4:Ext H3 H4:=Ext.push' hH4
 have hs3:H3.size=H2.size:=by rw[hH3];simp
 have how4:=(how.keep f3 (λi hi=>by have:=(hbk i hi).2;simp;exact this)).ext e4
 have e13:Ext H H3:=e2.fr_trans f3 (λi hi=>by simp at hi;omega)
 have hit3:H3[b]?=some (.stringIter s (pos+(Utf8.decode s pos).2)):=by rw[hH3];exact bA hb2
 refine eh (ys:=wvs [((Utf8.decode s pos).1:Int)]) how4 (dH (aL hb4 hH4) _ 0 0 (λj hj=>by simp)) (by simp) (gV _) rfl (by omega) ?_
 intro p' c' H5 how5 f5 hnew
 have e45:Ext H H5:=(e13.trans e4).fr_trans f5 (λi hi=>(hbk i hi).1)
 rw[gO hp]at hrs
 by_cases h62:(rs.length:Int)+1>62
 ·rw[if_pos h62]
  have hmany:62< (aX s).length:=by rw[hrs];simp;omega
  refine hR _ _ ⟨?_,?_,e45.fr⟩
  ·unfold strR;rw[if_pos hmany]
  ·unfold strO;rw[if_pos hmany];exact V.ext e45
 ·rw[if_neg h62]
  have hit5:H5[b]?=some (.stringIter s (pos+(Utf8.decode s pos).2)):=f5.get (λhi=>(hbk b hi).2 rfl) (e4.get hit3)
  refine⟨⟨_,rs++[((Utf8.decode s pos).1:Int)],hit5,by rw[hrs];simp,by simpa[wvs]using how5,by simp,by omega,e45,λi hi=>?_,bB hit5⟩,by show 63-(rs.length+1)<63-rs.length;omega⟩
  rcases hnew i hi with h | h
  ·exact hbk i h
  ·have:=e4.size;exact⟨by have:=e13.size;omega,by omega⟩

def sW(o:Option (Blk×Hp)):Option (Blk×Hp):=match o with | none=>none | some (b,x)=>some (b,{x with ep:=IntKind.wrap .u64 (x.ep+1)})
def hown(o:Option (Blk×Hp)):List Nat:=match o with | none=> [] | some (b,_)=> [b.h]
theorem HpAt.epAt{H:zV}{b:Blk}{x:Hp}(h:HpAt H b x):hat H ⟨b.h,3,none⟩=some (.int .u64 x.ep):=by rw[aT h.h];rfl
theorem HpAt.putEp{H:zV}{b:Blk}{x:Hp}(h:HpAt H b x)(e:Int):aI H ⟨b.h,3,none⟩ 0 1/\HpAt (aO H ⟨b.h,3,none⟩ [.int .u64 e] 0) b {x with ep:=e}/\Fr [b.h] H (aO H ⟨b.h,3,none⟩ [.int .u64 e] 0):=by
 refine⟨bS h.h _ _ _ (by simp),?_⟩
 rw[cR _ _ _ _ _ h.h]
 have f:Fr [b.h] H (bC H b.h (.cells (splice #[.pointer (some ⟨b.c,0,none⟩),x.sy,x.en,.int .u64 x.ep] (3+0) [.int .u64 e]) 48 (0,0))):=Fr.set
 refine⟨⟨h.cd.keep f ?_ ?_ ?_ ?_,h.ne,by rw[bA (bB h.h)];rfl⟩,f⟩<;>have:=h.ne<;>simp<;>omega
theorem oP{H:zV}{hv:zW}{o:Option (Blk×Hp)}(V:View H hv o):dR.C hv H (λv H'=>View H' hv (sW o)/\Fr (hown o) H H'):=by
 refine HC.via λR hR=>dR.link ?_
 unfold dR.pt
 refine HC.mono (jO V) ?_
 rintro _ H1 ⟨rfl,rfl⟩
 refine⟨_,rfl,?_⟩
 cases V with
 | nobody=>rw[if_pos (show(none:Option (Blk×Hp)).isNone=true from rfl)];exact hR _ _ ⟨.nobody,Fr.refl _ _⟩
 | empty h=>rw[if_pos (show(none:Option (Blk×Hp)).isNone=true from rfl)];exact hR _ _ ⟨.empty h,Fr.refl _ _⟩
 | @real b x h ok=>
  rw[if_neg (show ¬(some (b,x)).isNone=true from Bool.false_ne_true)]
  obtain⟨h1,h2⟩:=h.putEp (IntKind.wrap .u64 (x.ep+1))
  refine⟨_,rfl,_,by rw[addr_add_mk];exact h.epAt,by rw[addr_add_mk];exact h1,λH2 hH2=>?_⟩
  rw[addr_add_mk]at hH2
  subst hH2
  exact hR _ _ ⟨.real h2.1 ok,h2.2⟩

def Mem.objWords(m:Mem)(w:Int):List Int:=(List.range (m.len w).toNat).map λ(i:Nat)=>m.get (w / 8+1+(i:Int))
theorem Mem.objWords_len(m:Mem)(w:Int):(m.objWords w).length=(m.len w).toNat:=by unfold Mem.objWords;simp
theorem Mem.objWords_get(m:Mem)(w:Int){i:Nat}(h:i< (m.objWords w).length):(m.objWords w)[i]=m.get (w / 8+1+(i:Int)):=by simp[Mem.objWords]
theorem cE.words{m:Mem}{w kind more:Int}{ws:List Int}(h:cE m w kind more ws):m.objWords w=ws:=by
 refine List.ext_getElem (by rw[Mem.objWords_len,h.len];omega) λi h1 h2=>?_
 rw[Mem.objWords_get]
 exact h.get i h2
theorem View.objWord{H:zV}{hv:zW}{o:Option (Blk×Hp)}(V:View H hv o)(w:Int): ∀x∈(mof o).objWords w,aJ x:=λx hx=>by
 unfold Mem.objWords at hx
 obtain⟨i,_,rfl⟩:=List.mem_map.1 hx
 exact V.word _
theorem n9{H:zV}{hv:zW}{o:Option (Blk×Hp)}{w kind:Int}(V:View H hv o)(hw:aJ w):
  dD.C hv w kind H (λv H'=>Ext H H'/\((¬((mof o).isObj w/\(mof o).typ w=kind)/\v=.tuple #[.slice none 0 0,.bool false])\/
   ((mof o).isObj w/\(mof o).typ w=kind/\ ∃b:Nat,H.size<=b/\v=.tuple #[.slice (some ⟨b,0,none⟩) ((mof o).objWords w).length ((mof o).objWords w).length,.bool true]/\Own H' 33 1 (some ⟨b,0,none⟩) ((mof o).objWords w).length ((mof o).objWords w).length (wvs ((mof o).objWords w))))):=by
 refine HC.via λR hR=>dD.link ?_
 unfold dD.pt zY
 refine HC.mono (iK V hw) ?_
 rintro _ H1 ⟨rfl,e1⟩
 refine⟨_,_,_,_,_,rfl,?_⟩
 by_cases hk:(mof o).isObj w/\(mof o).typ w=kind
 case neg=>
  rw[if_pos (by
   by_cases h:(mof o).isObj w
   ·have: ¬(mof o).typ w=kind:=λe=>hk ⟨h,e⟩
    simp[h,this]
   ·simp[h])]
  exact hR _ _ ⟨e1,.inl ⟨hk,rfl⟩⟩
 obtain⟨hO,ht⟩:=hk
 rw[if_neg (by simp[hO,ht])]
 have hl:=V.len_bd w
 have hw8:w / 8<65536:=hO.1.1.2
 have hw0:0<=w / 8:=by have:=hw.1;omega
 refine⟨by omega,by omega,by omega,by omega,λb H2 hb hH2=>?_⟩
 have e2:=e1.trans (Ext.push' hH2)
 have hlen:=(mof o).objWords_len w
 have hb0:H.size<=b:=by have:=e1.size;omega
 refine⟨λi H'=>(0<=i/\i<=(mof o).len w)/\Ext H H'/\Own H' 33 1 (some ⟨b,0,none⟩) ((mof o).len w).toNat ((mof o).len w).toNat (wvs (((mof o).objWords w).take i.toNat)++List.replicate (((mof o).len w).toNat-i.toNat) (.int .u64 0)),λi _=>((mof o).len w-i).toNat,⟨⟨by omega,by omega⟩,e2,by simpa using qJ hb hH2⟩,?_⟩
 rintro i H3 ⟨hi,e3,how⟩
 by_cases hlt:i< ((((mof o).len w).toNat:Nat):Int)
 case neg=>
  rw[if_neg hlt]
  have e:(((mof o).objWords w).take i.toNat)=(mof o).objWords w:=List.take_of_length_le (by omega)
  have e':((mof o).len w).toNat-i.toNat=0:=by omega
  rw[e,e']at how
  rw[<-hlen]at how⊢
  exact hR _ _ ⟨e3,.inr ⟨hO,ht,b,hb0,rfl,by simpa using how⟩⟩
 rw[if_pos hlt]
 have hu:=hO.used hw (V.n64 _) (i:=i) ⟨hi.1,by omega⟩
 cases V with
 | nobody=>exact absurd hO.1.2.2.1 kR
 | empty h=>exact absurd hO.1.2.2.1 kR
 | @real bl x h ok=>
  have h3:=h.ext e3
  refine⟨_,rfl,_,h3.hPtr,_,rfl,_,h3.cd.cPtr,_,rfl,_,h3.cd.sp.memPtr,?_⟩
  rw[if_pos hO,w64 (n:=w / 8+1) (by omega),w64 (n:=w / 8+1+i) (by omega),w64 (n:=i+1) (by omega)]
  refine HC.mono (fJ h3.cd.sp.mem ok.mem (by omega)) ?_
  rintro _ H4 ⟨rfl,rfl⟩
  have hu':x.sp.mem.used (w / 8+1+i):=hu
  rw[if_pos hu']
  obtain⟨hcp,hpu⟩:=how.put (i:=i.toNat) (by omega) (.int .u64 (x.sp.mem.get (w / 8+1+i)))
  refine⟨_,_,rfl,⟨hi.1,hlt⟩,by rw[Nat.mul_one];exact hcp,λH5 hH5=>?_⟩
  rw[Nat.mul_one]at hH5
  obtain⟨how5,f5⟩:=hpu H5 hH5
  refine⟨⟨⟨by omega,by omega⟩,e3.fr_trans f5 (λj hj=>by simp at hj;omega),?_⟩,by show((mof (some (bl,x))).len w-(i+1)).toNat< ((mof (some (bl,x))).len w-i).toNat;omega⟩
  have hiN:i.toNat< ((mof (some (bl,x))).objWords w).length:=by omega
  have eg:((mof (some (bl,x))).objWords w)[i.toNat]=x.sp.mem.get (w / 8+1+i):=by
   rw[Mem.objWords_get,show((i.toNat:Nat):Int)=i by omega];rfl
  rw[show(i+1).toNat=i.toNat+1 by omega,List.take_succ_eq_append_getElem hiN,eg]
  have er:((mof (some (bl,x))).len w).toNat-i.toNat=(((mof (some (bl,x))).len w).toNat-(i.toNat+1))+1:=by omega
  rw[er,List.replicate_succ,List.set_append_right _ _ (by simp;omega)]at how5
  have e0:i.toNat-(wvs (((mof (some (bl,x))).objWords w).take i.toNat)).length=0:=by simp;omega
  rw[e0,List.set_cons_zero]at how5
  simpa[wvs]using how5

def gX(ws:List Int):ByteArray:=fY (ws.map λx=>if x>1114111 then 65533 else x)
theorem oQ{H:zV}{hv:zW}{o:Option (Blk×Hp)}{w:Int}(V:View H hv o)(hw:aJ w):
  dQ.C hv w H (λv H'=>v=(if(mof o).isObj w/\(mof o).typ w=2 then .tuple #[.string (gX ((mof o).objWords w)),.int .i64 0]else .tuple #[.string ⟨#[]⟩,.int .i64 3])/\Ext H H'):=by
 refine HC.via λR hR=>dQ.link ?_
 unfold dQ.pt zY
 refine HC.mono (n9 V hw) ?_
 rintro _ H1 ⟨e1,⟨hno,rfl⟩ | ⟨hO,ht,b,hb,rfl,how⟩⟩
 ·refine⟨_,_,_,_,rfl,?_⟩
  rw[if_neg (by decide)]
  exact hR _ _ ⟨by rw[if_neg hno],e1⟩
 refine⟨_,_,_,_,rfl,?_⟩
 rw[if_pos rfl]
 have hwd:=V.objWord w
 have hl62:((mof o).objWords w).length<=62:=by rw[Mem.objWords_len];have:=V.len_bd w;omega
 generalize (mof o).objWords w=ws at*
 have hb1:b<H1.size:=how.lt b (by simp)
 refine⟨λp n c i H'=>(0<=i/\i<=ws.length)/\Ext H1 H'/\Own H' 21 1 p n c (((ws.take i.toNat).map λx=>if x>1114111 then 65533 else x).map (Value.int .i32))/\n=i.toNat/\(∀j,j∈blks p->H1.size<=j),λ_ _ _ i _=>(ws.length-i).toNat,⟨⟨by omega,by omega⟩,Ext.refl _,by simpa using gJ,rfl,by simp⟩,?_⟩
 rintro p n c i H2 ⟨hi,e2,how2,rfl,hnew⟩
 by_cases hlt:i< (ws.length:Int)
 case neg=>
  rw[if_neg hlt]
  have e:ws.take i.toNat=ws:=List.take_of_length_le (by omega)
  rw[e]at how2
  refine⟨ws.map λx=>if x>1114111 then 65533 else x,⟨how2.src,λ_=>by have:=how2.len;simpa using this⟩,hR _ _ ⟨?_,e1.trans e2⟩⟩
  rw[if_pos ⟨hO,ht⟩];rfl
 rw[if_pos hlt]
 have hiN:i.toNat<ws.length:=by omega
 have hat2:=(how.ext e2).at (j:=i.toNat) (v:=.int .u64 ws[i.toNat]) (by simp[wvs,hiN])
 obtain⟨a,ha,hat2⟩:=hat2
 obtain rfl:=Option.some.inj ha
 refine⟨_,rfl,⟨hi.1,hlt⟩,ws[i.toNat],by rw[Nat.mul_one];exact hat2,?_⟩
 have hx:=hwd _ (List.getElem_mem hiN)
 have tail: ∀(y:Int) (b3:Nat) (H3:zV),(if ws[i.toNat]>1114111 then(65533:Int)else ws[i.toNat])=y->b3=H2.size->H3=H2.push (.cells #[.int .i32 y] 21)->
   dw 1 21 4 [.int .i32 0] p i.toNat c (some (Addr.mk b3 0 none)) 1 H3 (λap apC H4=>((0<=IntKind.wrap .i64 (i+1)/\IntKind.wrap .i64 (i+1)<=ws.length)/\Ext H1 H4/\Own H4 21 1 ap (i.toNat+1) apC (((ws.take (IntKind.wrap .i64 (i+1)).toNat).map λx=>if x>1114111 then 65533 else x).map (Value.int .i32))/\i.toNat+1=(IntKind.wrap .i64 (i+1)).toNat/\(∀j,j∈blks ap->H1.size<=j))/\((ws.length:Int)-IntKind.wrap .i64 (i+1)).toNat< ((ws.length:Int)-i).toNat):=by
  intro y b3 H3 hy hb3 hH3
  have e3:Ext H2 H3:=Ext.push' hH3
  rw[w64 (n:=i+1) (by omega)]
  refine eh (ys:=[.int .i32 y]) (how2.ext e3) (dH (aL hb3 hH3) _ 0 0 (λj hj=>by simp)) (by simp) rfl rfl (by omega) ?_
  intro p' c' H4 how4 f4 hn4
  refine⟨⟨⟨by omega,by omega⟩,(e2.trans e3).fr_trans f4 hnew,?_,by omega,λj hj=>?_⟩,by omega⟩
  ·rw[show(i+1).toNat=i.toNat+1 by omega,List.take_succ_eq_append_getElem hiN,List.map_append,List.map_append]
   simpa[hy]using how4
  ·rcases hn4 j hj with h | h
   ·exact hnew j h
   ·have:=(e2.trans e3).size;omega
 by_cases hbig:ws[i.toNat]>1114111
 ·rw[if_pos hbig]
  intro b3 H3 hb3 hH3
  exact tail 65533 b3 H3 (by rw[if_pos hbig]) hb3 hH3
 ·rw[if_neg hbig]
  intro b3 H3 hb3 hH3
  have hx0:=hx.1
  rw[wi32 (n:=ws[i.toNat]) (by omega)]at hH3
  exact tail _ b3 H3 (by rw[if_neg hbig]) hb3 hH3

