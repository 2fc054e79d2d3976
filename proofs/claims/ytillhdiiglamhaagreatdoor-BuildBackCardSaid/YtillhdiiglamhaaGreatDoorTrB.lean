/-
 slices.SortFunc at []int, said of heaps: its contract is the library's; what it asks is laid at this program. Proves nothing of any one statement.
-/
import Derived.Test.YtillhdiiglamhaaGreatDoorListsM
import Derived.Shelf.SlSortCmp.NoneTotal
import Derived.Test.YtillhdiiglamhaaGreatDoorDatM
import Derived.Test.YtillhdiiglamhaaGreatDoorFtrace2
set_option linter.unusedVariables false
set_option linter.unusedSimpArgs false
namespace Go.Proofs.YtillhdiiglamhaaGreatDoor
open Go Go.Proofs.Tryz
open Go Go.Proofs.Tryz Go.Shelf Go.RowKit Go.Lib Go.Sort Go.Proofs
variable{H:zV}
def ou:Go.Shelf.Ren:=⟨λ| 6=>119 | 15=>153 | 14=>152 | 28=>169 | 29=>170 | 20=>161 | 21=>162 | 22=>163 | 23=>164 | 24=>165 | 25=>166 | 26=>167 | 27=>168 | 46=>171 | 47=>172 | 48=>173 | 49=>174 | 50=>175 | 57=>176 | n=>n,λ| 22=>28 | 24=>3 | 25=>191 | 3=>3 | 39=>85 | 0=>0 | 53=>91 | 55=>36 | 4=>4 | 46=>226 | 45=>225 | 50=>137 | 5=>5 | 9=>9 | 66=>233 | 70=>237 | 76=>239 | 77=>240 | n=>n,λ| n=>n⟩
theorem uB:Go.Proofs.SlLaysF.n6 prog ou:={
 mixed:=GE
 f6:=⟨f119.name,GG,func119.trans (Eg some GE)⟩
 f14:=⟨f152.name,GG,func152.trans (Eg some GE)⟩
 f15:=func153.trans (Eg some GE)
 f20:=⟨f161.name,GG,func161.trans (Eg some GE)⟩
 f21:=⟨f162.name,GG,func162.trans (Eg some GE)⟩
 f22:=⟨f163.name,GG,func163.trans (Eg some GE)⟩
 f23:=⟨f164.name,GG,func164.trans (Eg some GE)⟩
 f24:=⟨f165.name,GG,func165.trans (Eg some GE)⟩
 f25:=⟨f166.name,GG,func166.trans (Eg some GE)⟩
 f26:=⟨f167.name,GG,func167.trans (Eg some GE)⟩
 f27:=⟨f168.name,GG,func168.trans (Eg some GE)⟩
 f28:=func169.trans (Eg some GE)
 f29:=func170.trans (Eg some GE)
 f46:=⟨f171.name,GG,func171.trans (Eg some GE)⟩
 f47:=func172.trans (Eg some GE)
 f48:=func173.trans (Eg some GE)
 f49:=⟨f174.name,GG,func174.trans (Eg some GE)⟩
 f50:=⟨f175.name,GG,func175.trans (Eg some GE)⟩
 f57:=⟨f176.name,GG,func176.trans (Eg some GE)⟩
 t0:=underlying0
 a0:=isAgg0
 z0:=sizeOf0
 v0:=zeroValue0
 t3:=Fx
 a3:=isAgg3
 z3:=sizeOf3
 v3:=zeroValue3
 t4:=underlying4
 a4:=isAgg4
 z4:=sizeOf4
 v4:=zeroValue4
 t5:=underlying5
 a5:=isAgg5
 z5:=sizeOf5
 v5:=zeroValue5
 t9:=EB
 a9:=isAgg9
 z9:=sizeOf9
 v9:=zeroValue9
 t22:=EW
 a22:=isAgg28
 z22:=sizeOf28
 v22:=zeroValue28
 a24:=isAgg3
 z24:=sizeOf3
 t25:=underlying191
 a25:=isAgg191
 z25:=sizeOf191
 v25:=zeroValue191
 t39:=underlying85
 a39:=isAgg85
 z39:=sizeOf85
 v39:=zeroValue85
 t45:=underlying225
 a45:=isAgg225
 z45:=sizeOf225
 v45:=zeroValue225
 t46:=underlying226
 a46:=isAgg226
 z46:=sizeOf226
 v46:=zeroValue226
 t50:=underlying137
 a50:=isAgg137
 z50:=sizeOf137
 v50:=zeroValue137
 t53:=underlying91
 a53:=isAgg91
 z53:=sizeOf91
 v53:=zeroValue91
 t55:=underlying36
 a55:=isAgg36
 z55:=sizeOf36
 v55:=zeroValue36
 t66:=underlying233
 a66:=isAgg233
 z66:=sizeOf233
 v66:=zeroValue233
 t70:=underlying237
 a70:=isAgg237
 z70:=sizeOf237
 v70:=zeroValue237
 t76:=underlying239
 a76:=isAgg239
 z76:=sizeOf239
 v76:=zeroValue239
 t77:=underlying240
 a77:=isAgg240
 z77:=sizeOf240
 v77:=zeroValue240}
theorem uC{p:zW}{c:Nat}{b:Value}:HC prog 119 #[vs p 0 c,b] H (λv d=>v=.tuple #[]/\d=H):=λw g=>by
 have h:=AnyF.slices_SortFunc_none (P:=prog) (ρ:=ou) {uB with} p c b w;exact h.mono λe i ⟨f,a⟩=>⟨_,f,by subst a;exact Fy _,rfl,by rw[a];exact g⟩
theorem vD{w c:World}(s:Same w c)(e:Ext w.heap c.heap): ∃q d,c=grow (w.drewN q) d:=by
 refine⟨c.drawn-w.drawn,c.heap.extract w.heap.size c.heap.size,?_⟩;obtain⟨l,m,n,p⟩:=s
 cases w with
 | mk heap o drawn v g=>
 cases c with
 | mk a j b d f=>
 simp only at l m n p e;subst l m n;have r:drawn+(b-drawn)=b:=GF
 have t:heap++a.extract heap.size a.size=a:=by
  refine Gs λi=>?_;have u:=e.size;rcases EC i heap.size with h | h
  ·rw[Array.getElem?_append_left h,e.old i h]
  ·rw[Array.getElem?_append_right h,Array.getElem?_extract];split
   ·congr 1;omega
   ·rw[Array.getElem?_eq_none GF]
 simp only[grow,World.drewN,r,t]
variable {k:Nat}
def BH(i:Fin (k+1)):Value:=vi (i.val:Int)
theorem pq{b i:Nat}{f:Obj->Obj}:(H.modify b f)[i]?=if b=i then H[i]?.map f else H[i]?:=by
 rw[Array.getElem?_modify]
theorem Az{T:TypeId}{b n c g:Nat}{cb:Array Value}{o:List (Fin (k+1))}{tk:Fin (k+1)->Int}(D:Own H T 1 (some ⟨b,0,none⟩) n c (o.map BH))(hn:n<4611686018427387904)
  (X: ∀args w,(callFunc g args).run prog w=.ok (.enter g args) w)
  (I: ∀s,Fr [b] H s-> ∀x y:Fin (k+1),HC prog g (#[BH x,BH y]++cb) s (λv G=>v=vi (Lib.compareInt (tk x) (tk y))/\Ext s G)):
  HC prog 119 #[vs (some ⟨b,0,none⟩) n c,.func (.func g) #[] cb] H (λv s=>v=.tuple #[]/\ ∃R:List (Fin (k+1)),R.Perm o/\R.Pairwise (λx y=>tk x<=tk y)/\Own s T 1 (some ⟨b,0,none⟩) n c (R.map BH)/\Fr [b] H s):=λw hw=>by
 subst hw;have f:=D.len;simp only[E2,EG]at f;obtain⟨_,S,E,J,P,hl,hc⟩:=D;have q:=aS E;have r: ∀(d:Array (Fin (k+1))),d.size=n-> ∀m l,(sortWorld BH w b 0 m d l).heap=(w.heap.modify b (onCells (putCells BH 0 d)))++l:=λd F m l=>rfl
 have C: ∀(d:Array (Fin (k+1))) (l:zV),((w.heap.modify b (onCells (putCells BH 0 d)))++l)[b]?=some (.cells (putCells BH 0 d S) T (0,0)):=λd l=>by
  rw[Array.getElem?_append_left (by simpa using q),pq,ka rfl,E];rfl
 have B: ∀(d:Array (Fin (k+1))) (l:zV),Fr [b] w.heap ((w.heap.modify b (onCells (putCells BH 0 d)))++l):=λd l=>by
  refine⟨GH,λi L hn=>?_⟩;rw[Array.getElem?_append_left (by simpa using L),pq,kb (by simp at hn;omega)]
 have Z:SWO (ltOf λx y:Fin (k+1)=>Lib.compareInt (tk x) (tk y)):=by
  have e: ∀x y,ltOf (λx y:Fin (k+1)=>Lib.compareInt (tk x) (tk y)) x y=decide (tk x<tk y):=λx y=>by
   unfold ltOf Lib.compareInt;by_cases a:tk x<tk y
   ·simp[a]
   ·by_cases u:tk y<tk x<;>simp[a,u]
  exact⟨λx=>by rw[e];simp,λx y z a u=>by rw[e]at*;simp at*;omega,λx y z a u=>by rw[e]at*;simp at*;omega⟩
 have Y:Holds BH w b 0 o.toArray:=λj t=>by
  have N:j<o.length:=by simpa using t
  have a:=hc j GF;rw[List.getElem?_map,List.getElem?_eq_getElem N]at a;refine⟨?_,?_⟩
  ·unfold World.cell?;simp only[E];simp only[Option.isSome_none,EV,EM,Eo];rw[a];simp[getElem!_pos o.toArray j t]
  ·unfold World.frozen?;simp only[E];simp
 have A:CmpLays1 prog g cb BH (λx y:Fin (k+1)=>Lib.compareInt (tk x) (tk y)) b 0 o.toArray.size w:=λm l U K x y=>by
  refine(I _ (by rw[r U (by simpa using K.trans (by simpa using f))];exact B U l) x y _ rfl).mono ?_;rintro e w' ⟨v,rfl,Q,rfl,he⟩;exact⟨rfl,vD Q he⟩
 have h:=Any.slices_SortFunc uB BH (λ_=>rfl) (λx y:Fin (k+1)=>Lib.compareInt (tk x) (tk y)) Z g cb b 0 c o.toArray w X A Y q (by simpa using(by omega:o.length<4611686018427387904));rw[show o.toArray.size=n by simpa using f]at h;refine h.mono ?_;rintro e w' ⟨rfl,p,m,l,V,Q,rfl⟩;have F:p.size=n:=by rw[V.1];simpa using f
 refine⟨_,rfl,⟨rfl,rfl,rfl,Nat.le_add_right _ _⟩,rfl,p.toList,?_,?_,?_,B p l⟩
 ·have a:=V.2.2;simp only[Array.extract_eq_self_of_le,F,Er]at a;have W:((o.toArray).extract 0 n).toList=o:=by rw[show n=o.toArray.size by simp;omega];simp
  rw[W]at a;exact a
 ·rw[List.pairwise_iff_getElem];intro i j L t M;have a:=Q i j (Fm _) M (by simpa using(by simpa[F]using t));unfold ltOf Lib.compareInt at a;rw[getElem!_pos p i (by simpa using L),getElem!_pos p j (by simpa using t)]at a;simp only[Array.getElem_toList];by_cases u:tk p[j]<tk p[i]
  ·simp[u]at a
  ·omega
 ·refine⟨rfl,_,C p l,by simp[putCells,J],P,by simp[F],λj t=>?_⟩;have O:j<S.size:=GF;simp only[putCells,Array.getElem?_mapIdx,Array.getElem?_eq_getElem O,Option.map_some];rw[ka ⟨Fm _,GF⟩,Nat.sub_zero,getElem!_pos p j GF];simp[List.getElem?_eq_getElem (show j<p.toList.length by simp;omega)]
end Go.Proofs.YtillhdiiglamhaaGreatDoor
namespace Go.Proofs.YtillhdiiglamhaaGreatDoor
open Go Go.Proofs.Tryz
theorem Gz:type_of% @List.filter_cons_of_neg:=@List.filter_cons_of_neg
theorem Gy:type_of% @List.filter_cons_of_pos:=@List.filter_cons_of_pos
theorem Fg:type_of% @List.mem_filter:=@List.mem_filter
variable{a:List Int}{H:zV}{b:Mem}{d:zW}{g:Nat}
def Bw(l:List Int):List Value:=l.map (Value.int .i64)
theorem ov{x y:Int}:cmp_Compare_int.C x y H (λv d=>v=vi (Lib.compareInt x y)/\d=H):=by
 refine Ei λR a=>cmp_Compare_int.link ?_;unfold cmp_Compare_int.pt;refine cmp_isNaN_int.link ?_;unfold cmp_isNaN_int.pt;refine⟨_,rfl,cmp_isNaN_int.link ?_⟩;unfold cmp_isNaN_int.pt;refine⟨_,rfl,?_⟩;have e: ¬(x !=x)=true:=GH;have f: ¬(y !=y)=true:=GH;rw[kb e,kb f];unfold Lib.compareInt at a;by_cases b:x<y
 ·rw[ka b]at a⊢;exact a _ _ ⟨rfl,rfl⟩
 rw[kb b]at a⊢;by_cases c:x>y
 ·rw[ka c]at a⊢;exact a _ _ ⟨rfl,rfl⟩
 ·rw[kb c]at a⊢;exact a _ _ ⟨rfl,rfl⟩
theorem pS(h:bV H d (Bw a)){i:Nat}(b:i<a.length): ∃c,d=some c/\hat H (c.add (i*1))=some (vi a[i]):=by
 cases d with
 | none=>rw[Ge]at h;simp[Bw]at h;subst h;simp at b
 | some c=>
  refine⟨c,rfl,?_⟩;have:=gM (show aI H c 0 _ from h) i (vi a[i]) (by simp[Bw,b]);rw[Eo]at this;rw[EG];exact this
theorem mL{n c:Nat}{v:Int}(j:bV H d (Bw a))(hn:n=a.length)(p:n<=1000000):
  cL.C d n c v H (λu o=>u=.bool (decide (v∈a))/\o=H):=by
 subst hn;refine Ei λR l=>cL.link ?_;unfold cL.pt;refine dW.link ?_;unfold dW.pt zY;refine⟨λi A=>(0<=i/\i<=a.length)/\v ∉ a.take i.toNat/\A=H,λi _=>(a.length-i).toNat,⟨GF,GH,rfl⟩,?_⟩;rintro i A ⟨m,k,rfl⟩;by_cases b:i< (a.length:Int)
 ·rw[ka b];have f:i.toNat<a.length:=GF;obtain⟨q,rfl,g⟩:=pS j f;refine⟨q,rfl,⟨m.1,b⟩,_,g,?_⟩;by_cases e:v=a[i.toNat]
  ·rw[ka e];refine⟨_,rfl,?_⟩;rw[zX (show i>=0 from m.1)];exact l _ _ ⟨by rw[zX (e▸Eu f)],rfl⟩
  ·rw[kb e,n5 (n:=i+1) GF];have j:(i+1).toNat=i.toNat+1:=GF;refine⟨⟨GF,?_,rfl⟩,by show((a.length:Int)-(i+1)).toNat< ((a.length:Int)-i).toNat;omega⟩;rw[j,EL f];intro h;rcases EH.1 h with h | h
   ·exact k h
   ·exact e (by simpa using h)
 ·rw[kb b];rw[ES GF]at k;refine⟨_,rfl,?_⟩;rw[zQ GG];exact l _ _ ⟨by rw[zQ k],rfl⟩
def Mem.takenTo(m:Mem)(gs:List Int)(k:Nat):List Nat:=(List.range k).filter λi=>decide (0< (m.seg i).taken) && (gs.isEmpty || decide ((m.seg i).gen∈gs))
structure iw (m:Mem) (gs:List Int) (l:List Nat):Prop where
 perm:l.Perm (m.takenTo gs m.limit)
 sorted:l.Pairwise (λi j=>(m.seg i).taken<=(m.seg j).taken)
theorem Mem.takenTo_lt{i:Nat}(h:i∈b.takenTo a g):i<g:=by
 unfold Mem.takenTo at h;rw[Fg,ER]at h;exact h.1
theorem Mem.takenTo_len(m:Mem)(a:List Int)(k:Nat):(m.takenTo a k).length<=k:=by
 unfold Mem.takenTo;refine Fe (List.length_filter_le _ _) GH
theorem Mem.takenTo_succ(m:Mem)(a:List Int)(k:Nat):m.takenTo a (k+1)=m.takenTo a k++(if 0< (m.seg k).taken/\(a=[]\/(m.seg k).gen∈a)then[k]else[]):=by
 unfold Mem.takenTo;rw[Fs,List.filter_append];congr 1;by_cases h:0< (m.seg k).taken/\(a=[]\/(m.seg k).gen∈a)
 ·rw[ka h]
  have:(decide (0< (m.seg k).taken) && (a.isEmpty || decide ((m.seg k).gen∈a)))=true:=by
   rcases h with⟨b,rfl | c⟩<;>simp_all
  simp[this]
 ·rw[kb h]
  have:(decide (0< (m.seg k).taken) && (a.isEmpty || decide ((m.seg k).gen∈a)))=false:=by
   simp only[Bool.and_eq_false_iff,Bool.or_eq_false_iff,decide_eq_false_iff_not,List.isEmpty_eq_false_iff];by_cases b:0< (m.seg k).taken
   ·refine .inr ⟨λc=>h ⟨b,.inl c⟩,λc=>h ⟨b,.inr c⟩⟩
   ·exact .inl b
  simp[this]
set_option maxRecDepth 100000 in
theorem kU{bs:Nat}{m:Mem}{gN gC:Nat}{gs:List Int}(M:eG H g bs m)(ok:bP m)(hg:bV H d (Bw gs))(O:gN=gs.length)(b9:gN<=1000):
  eP.C (some ⟨g,0,none⟩) d gN gC H (λv H'=> ∃(B:zW) (c:Nat) (l:List Nat),v=vs B l.length c/\iw m gs l/\Own H' 3 1 B l.length c (Bw (l.map λi:Nat=>(i:Int)))/\(∀i∈l6 B,H.size<=i)/\Ext H H'):=by
 refine Ei λR hR=>eP.link ?_;unfold eP.pt zY;have ax:=ok.lim;intro b t hb D;have e1:Ext H t:=Eh D;have g1:=aK hb D;have s1:t.size=H.size+1:=by rw[D];simp
 refine⟨_,by rw[aW g1];rfl,?_⟩;rw[El];have M1:=M.ext e1;refine⟨_,by rw[aW g1];rfl,_,rfl,_,_,_,M1.segsAt.choose_spec,?_⟩
 refine⟨λB n c i A=>(0<=i/\i<=m.limit)/\n=(m.takenTo gs i.toNat).length/\Own A 3 1 B n c (Bw ((m.takenTo gs i.toNat).map λi:Nat=>(i:Int)))/\(∀j∈l6 B,t.size<=j)/\Ext t A,λ_ _ _ i _=>(m.limit-i).toNat,
  ⟨GF,rfl,gW,GH,ED _⟩,?_⟩
 rintro B n c i A ⟨hi,rfl,o,I,u⟩;have Z:=M1.ext u;have gA:=u.get g1;by_cases G:i< (m.limit:Int)
 ·rw[ka G];have P:i.toNat<m.limit:=GF;have hs:(i+1).toNat=i.toNat+1:=GF;have h7:=Z.at P (j:=7) GG;have h0:=Z.at P (j:=0) GG;refine⟨_,by rw[aW gA];rfl,_,rfl,_,_,_,Z.segsAt.choose_spec,_,rfl,⟨hi.1,G⟩,(m.seg i.toNat).taken,by rw[Ej,Ej,Eo];exact h7,?_⟩;rw[n5 (n:=i+1) GF];have hm:((m.limit:Int)-(i+1)).toNat< ((m.limit:Int)-i).toNat:=GF;have ba:=m.takenTo_len gs i.toNat
  have z: ∀(s:zV) (K:Nat) (X:zV),Ext A s->K=s.size->X=s.push (.cells #[vi i] 3)->(0< (m.seg i.toNat).taken/\(gs=[]\/(m.seg i.toNat).gen∈gs))->
    dY 1 3 8 [vi 0] B (m.takenTo gs i.toNat).length c (some (Addr.mk K 0 none)) 1 X (λap a6 H4=>
     ((0<=i+1/\i+1<=m.limit)/\(m.takenTo gs i.toNat).length+1=(m.takenTo gs (i+1).toNat).length/\Own H4 3 1 ap ((m.takenTo gs i.toNat).length+1) a6 (Bw ((m.takenTo gs (i+1).toNat).map λi:Nat=>(i:Int)))/\(∀j∈l6 ap,t.size<=j)/\Ext t H4)/\((m.limit:Int)-(i+1)).toNat< ((m.limit:Int)-i).toNat):=by
   intro s K X r E L e;have e2:Ext s X:=Eh L;refine dE (ys:=[vi i]) (o.ext (r.trans e2)) (cX (aK E L) _ 0 0 (λj J=>GH)) rfl rfl rfl GF ?_;intro p' c' H4 U f4 ai;have p:m.takenTo gs (i.toNat+1)=m.takenTo gs i.toNat++[i.toNat]:=by rw[Mem.takenTo_succ,ka e]
   refine⟨⟨GF,by rw[hs,p];simp,?_,λj J=>?_,((u.trans r).trans e2).fr_trans f4 I⟩,hm⟩
   ·rw[hs,p,E4];have:(i.toNat:Int)=i:=GF;simpa[Bw,this]using U
   ·rcases ai j J with h | h
    ·exact I j h
    ·have:=u.size;have:=r.size;have:=e2.size;omega
  have skip: ∀(s:zV),Ext A s-> ¬(0< (m.seg i.toNat).taken/\(gs=[]\/(m.seg i.toNat).gen∈gs))->
    ((0<=i+1/\i+1<=m.limit)/\(m.takenTo gs i.toNat).length=(m.takenTo gs (i+1).toNat).length/\Own s 3 1 B (m.takenTo gs i.toNat).length c (Bw ((m.takenTo gs (i+1).toNat).map λi:Nat=>(i:Int)))/\(∀j∈l6 B,t.size<=j)/\Ext t s)/\((m.limit:Int)-(i+1)).toNat< ((m.limit:Int)-i).toNat:=by
   intro s r e;have p:m.takenTo gs (i.toNat+1)=m.takenTo gs i.toNat:=by rw[Mem.takenTo_succ,kb e,E9]
   exact⟨⟨GF,by rw[hs,p],by rw[hs,p];exact o.ext r,I,u.trans r⟩,hm⟩
  by_cases W:(m.seg i.toNat).taken>0
  ·rw[ka W];by_cases F:(gN:Int)=0
   ·rw[ka F];have af:gs=[]:=Gf.1 GF;intro K H3 E aa;exact z A K H3 (ED _) E aa ⟨W,.inl af⟩
   ·rw[kb F];refine⟨(m.seg i.toNat).gen,by rw[Ej,Eo];exact h0,?_⟩;refine gc (mL ((hg.ext e1).ext u) O GF) ?_;rintro _ H5 ⟨rfl,h5⟩;subst h5;refine⟨_,rfl,?_⟩;have aj:gs≠[]:=λh=>F (by rw[O,h];rfl);by_cases e:(m.seg i.toNat).gen∈gs
    ·rw[ka (zX e)];intro b3 H6 ae ab;exact z _ b3 H6 (ED _) ae ab ⟨W,.inr e⟩
    ·rw[kb (by simpa using e)];exact skip _ (ED _) (λh=>h.2.elim aj e)
  ·rw[kb W];exact skip _ (ED _) (λh=>W h.1)
 rw[kb G];have ah:i.toNat=m.limit:=GF;rw[ah]at o⊢
 cases B with
 | none=>
  obtain⟨h0,rfl,_⟩:=o;have T:m.takenTo gs m.limit=[]:=Gf.1 h0;rw[h0];refine gc uC ?_;rintro _ H8 ⟨_,rfl⟩;exact hR _ _ ⟨none,0,[],rfl,⟨by rw[T],List.Pairwise.nil⟩,gW,GH,e1.trans u⟩
 | some a=>
  have ha:a=⟨a.block,0,none⟩:=o.1;obtain⟨k,hk⟩: ∃k,m.limit=k+1:=⟨m.limit-1,GF⟩;have S: ∀i∈m.takenTo gs m.limit,i<k+1:=λi hi=>hk▸Mem.takenTo_lt hi;generalize al:(m.takenTo gs m.limit).attach.map (λi=>(⟨i.1,S i.1 i.2⟩:Fin (k+1)))=xs;have q:xs.map (λx=>x.val)=m.takenTo gs m.limit:=by rw[<-al];simp
  have N:Bw ((m.takenTo gs m.limit).map λi:Nat=>(i:Int))=xs.map BH:=by
   rw[<-q];simp[Bw,BH,Function.comp_def]
  rw[N]at o;rw[ha]at o⊢;have b7:a.block≠b:=by have:=I a.block GH;omega
  have b4:a.block≠g/\a.block≠bs:=by
   have:=I a.block GH;have:=M.lt;omega
  refine gc (Az (k:=k) (tk:=λx=>(m.seg x.val).taken) o (by have:=m.takenTo_len gs m.limit;omega) (enters_of func120 GE rfl) ?_) ?_
  ·intro H' f x y;refine Ei λR' ac=>gS.link ?_;unfold gS.pt;have gb:=f.get (b:=b) (by simp;omega) gA;have Y:=Z.keep f (by simp;omega) (by simp;omega);have ak:=Y.at (k:=x.val) (by have:=x.isLt;omega) (j:=7) GG;have am:=Y.at (k:=y.val) (by have:=y.isLt;omega) (j:=7) GG;have bb:=x.isLt;have bc:=y.isLt
   refine⟨_,rfl,_,by rw[aW gb];rfl,_,rfl,_,_,_,Y.segsAt.choose_spec,_,rfl,⟨GF,GF⟩,(m.seg x.val).taken,by rw[show Int.toNat (x.val:Int)=x.val by omega,Ej,Ej,Eo];exact ak,
    _,by rw[aW gb];rfl,_,rfl,_,_,_,Y.segsAt.choose_spec,_,rfl,⟨GF,GF⟩,(m.seg y.val).taken,by rw[show Int.toNat (y.val:Int)=y.val by omega,Ej,Ej,Eo];exact am,?_⟩
   refine gc ov ?_;rintro _ aB ⟨rfl,a9⟩;exact⟨_,rfl,ac _ _ ⟨rfl,a9▸ED _⟩⟩
  ·rintro _ H8 ⟨_,ys,hp,V,w,f8⟩
   have Q:(ys.map (λy=>y.val)).length=(m.takenTo gs m.limit).length:=by
    rw[E2,hp.length_eq,<-q,E2]
   rw[<-Q]at w⊢;refine hR _ _ ⟨some ⟨a.block,0,none⟩,c,ys.map (λy=>y.val),rfl,⟨?_,?_⟩,?_,λj J=>?_,(e1.trans u).fr_trans f8 (λj J=>?_)⟩
   ·rw[<-q];exact hp.map _
   ·exact List.pairwise_map.2 V
   ·have:Bw ((ys.map λy=>y.val).map λi:Nat=>(i:Int))=ys.map BH:=by simp[Bw,BH,Function.comp_def]
    rw[this];exact w
   ·simp at J;have:=I a.block GH;omega
   ·simp at J;have:=I a.block GH;omega
def Mem.sumN(m:Mem)(l:List Nat):Int:=(l.map λi=>(m.seg i).n).sum
def Mem.words(m:Mem)(gs:List Int):Int:=m.sumN (m.takenTo gs m.limit)
theorem iw.has{l:List Nat}(h:iw b a l)(e:g∈l):b.has (g:Int)/\g<b.limit/\0< (b.seg g).taken/\(a=[]\/(b.seg g).gen∈a):=by
 have c:=h.perm.subset e;have d:=Mem.takenTo_lt c;unfold Mem.takenTo at c;rw[Fg]at c;simp only[EF,Ex,EU,List.isEmpty_iff]at c;refine⟨⟨GF,GF,?_⟩,d,c.2.1,c.2.2⟩;have:((g:Int)).toNat=g:=GF;rw[this];omega
theorem iw.len{l:List Nat}(h:iw b a l):l.length<=b.limit:=by
 rw[h.perm.length_eq];exact b.takenTo_len a _
theorem qH{T:TypeId}{n c:Nat}{l:List Nat}(b:Own H T 1 d n c (Bw (l.map λi:Nat=>(i:Int)))){i:Nat}(f:i<l.length): ∃a,d=some a/\hat H (a.add (i*1))=some (vi (l[i]:Int)):=by
 obtain⟨a,e,h⟩:=pS b.src (i:=i) (by simpa using f);exact⟨a,e,by simpa using h⟩
theorem uD(n:Nat)(a:List Int):(Mem.fresh n).words a=0:=by
 unfold Mem.words
 have:(Mem.fresh n).takenTo a (Mem.fresh n).limit=[]:=by
  unfold Mem.takenTo;rw[List.filter_eq_nil_iff];intro i _;simp[Mem.fresh,Seg.none]
 rw[this];rfl
end Go.Proofs.YtillhdiiglamhaaGreatDoor
namespace Go.Proofs.YtillhdiiglamhaaGreatDoor
open Go
theorem qI(f:Nat->Int)(p:Nat->Bool): ∀l:List Nat,((l.filter p).map f).sum=(l.map λi=>if p i=true then f i else 0).sum
 | []=>rfl
 | i::l=>by
  have a:=qI f p l;by_cases h:p i=true
  ·rw[Gy h,List.map_cons,List.sum_cons,List.map_cons,List.sum_cons,a,ka h]
  ·rw[Gz h,List.map_cons,List.sum_cons,a,kb h];omega
theorem wD{f g:Nat->Int}{d:Int}{j:Nat}(a: ∀i,i≠j->g i=f i)(b:g j=f j+d): ∀k,((List.range k).map g).sum=((List.range k).map f).sum+(if j<k then d else 0)
 | 0=>GH
 | k+1=>by
  have e:=wD a b k;rw[Fs,E4,List.sum_append,E4,List.sum_append,e];simp only[List.map_cons,List.map_nil,List.sum_cons,List.sum_nil];by_cases hk:k=j
  ·subst hk;rw[kb GF,ka GF,b];omega
  ·rw[a k hk];by_cases c:j<k
   ·rw[ka c,ka GF];omega
   ·rw[kb c,kb GF];omega
def Mem.wordsAt(m:Mem)(gs:List Int)(i:Nat):Int:=if(decide (0< (m.seg i).taken) && (gs.isEmpty || decide ((m.seg i).gen∈gs)))=true then(m.seg i).n else 0
theorem sx(m:Mem)(a:List Int):m.words a=((List.range m.limit).map (m.wordsAt a)).sum:=by
 unfold Mem.words Mem.sumN Mem.takenTo;rw[qI];rfl
def Mem.Gen0(m:Mem):Prop:= ∀i,(m.seg i).taken≠0->(m.seg i).gen=0
structure Laid (m m':Mem) (w:Int) (n:Nat):Prop where
 words: ∀gs:List Int,gs=[]\/gs=[0]->m'.words gs=m.words gs+n
 gen0:m.Gen0->m'.Gen0
 addr:ic w/\w % 8≠6/\w % 8≠0
 one:w / 8 / 64=(w / 8+n-1) / 64/\0<=w / 8
 gen:m'.genOf w=(0,true)
 fresh: ∀i:Nat,i<n-> ¬m.used (w / 8+i)
 keep: ∀x,m.used x->m'.used x
 mine: ∀i:Nat,i<n->m'.used (w / 8+i)
theorem Grown.laid{m E g:Mem}{a k j:Int}{n:Nat}(Q:bP m)(I:bP g)(r:Grown m E a n 0 k)(s:bQ E g)(hn:1<=n)(V:j=1\/j=2\/j=3)(U:a<65536):Laid m g (a*8+j) n:=by
 obtain⟨S,M,T⟩:=r.addr;have B:(a*8+j) / 8=a:=GF;have e:g.limit=m.limit:=s.limit.trans r.limit;have p:=s.seg (a / 64).toNat;have R:=(Q.seg (a / 64).toNat).taken;have A:=(I.seg (a / 64).toNat).taken;obtain⟨O,F,W,G⟩:=r.new;have c:g.has (a / 64):=⟨GF,by rw[e];exact M,by rw[p.2.2.2.1];exact O⟩
 have b: ∀i,i≠(a / 64).toNat->(g.seg i).gen=(m.seg i).gen/\(g.seg i).n=(m.seg i).n/\(g.seg i).taken=(m.seg i).taken:=λi o=>by
  have d:=s.seg i;rw[r.others i o]at d;exact⟨d.1,d.2.2.1,d.2.2.2.1⟩
 have t: ∀x,m.used x->g.used x:=λx N=>by
  obtain⟨J,q,C⟩:=N;by_cases o:(x / 64).toNat=(a / 64).toNat
  ·have f:x / 64=a / 64:=by have:=q.1;omega
   rw[f]at q C;obtain⟨_,_,H,_⟩:=r.old q.2.2;refine⟨J,by rw[f];exact c,?_⟩;rw[f,p.2.2.1,G];omega
  ·obtain⟨d,w,y⟩:=b _ o;exact⟨J,⟨q.1,by rw[e];exact q.2.1,by rw[y];exact q.2.2⟩,by rw[w];exact C⟩
 refine⟨λv D=>?_,λh i o=>?_,⟨⟨GF,GF⟩,GF,GF⟩,by rw[B];omega,?_,λi o L=>?_,t,λi o=>?_⟩
 ·have d: ∀i,i≠(a / 64).toNat->g.wordsAt v i=m.wordsAt v i:=λi o=>by
   obtain⟨d,w,y⟩:=b i o;unfold Mem.wordsAt;rw[d,w,y]
  have w:g.wordsAt v (a / 64).toNat=m.wordsAt v (a / 64).toNat+n:=by
   have z:(v.isEmpty || decide ((0:Int)∈v))=true:=by rcases D with rfl | rfl<;>rfl
   unfold Mem.wordsAt;rw[p.1,p.2.2.1,p.2.2.2.1,F,G,zX (show 0< (E.seg (a / 64).toNat).taken by rw[p.2.2.2.1]at A;omega),z,ka (show(true && true)=true from rfl)];by_cases u:(m.seg (a / 64).toNat).taken=0
   ·rw[u,kb GH,r.fresh u]
   ·obtain⟨P,_,H,_⟩:=r.old u;rw[P,H,z,zX (show 0< (m.seg (a / 64).toNat).taken by omega),ka (show(true && true)=true from rfl)]
  rw[sx,sx,e,wD d w,ka GF]
 ·by_cases K:i=(a / 64).toNat
  ·subst K;rw[p.1];exact F
  ·obtain⟨d,w,y⟩:=b i K;rw[d];exact h i (by rw[<-y];exact o)
 ·unfold Mem.genOf;rw[B,ka ⟨⟨GF,GF⟩,GF⟩,ka c,zX c,p.1,F]
 ·rw[B]at L;obtain⟨J,q,C⟩:=L;have l:(a+(i:Int)) / 64=a / 64:=GF;rw[l]at q C;obtain⟨_,_,H,_⟩:=r.old q.2.2;omega
 ·rw[B];have l:(a+(i:Int)) / 64=a / 64:=GF;refine⟨GF,by rw[l];exact c,?_⟩;rw[l,p.2.2.1,G];omega
theorem sD{s:Sp}{g k n:Int}(h:(s.alloc g k n).2.2=0):BP g k n:=by
 by_cases hm:BP g k n
 ·exact hm
 ·unfold Sp.alloc at h;rw[ka hm]at h;exact absurd h (by show ¬((1:Int)=0);decide)
theorem uE{s:Sp}(e:SpOK s){kind tag:Int}{ws:List Int}(l:tag=1\/tag=2\/tag=3)(m: ∀w∈ws,aO w)(j:1<=ws.length)(h:(s.put kind tag ws).2.2=0):Laid s.mem (s.put kind tag ws).1.mem (s.put kind tag ws).2.1 ws.length:=by
 by_cases b:(s.alloc 0 kind ws.length).2.2=0
 ·have c:tag=1\/tag=2\/tag=3\/tag=6:=GF;obtain⟨a,f,i,g,d,k,_⟩:=Sp.put_ok e (sD b) c m b;rw[f];exact i.laid e.mem d.mem (by rw[g];exact bQ.sets _ _ _) j l k
 ·unfold Sp.put at h;rw[kb b]at h;exact absurd h b
theorem xj{b:Blk}{x e:Hp}{kind a w:Int}{ws:List Int}(m:SpOK x.sp)(l: ∀w∈ws,aO w)(f:aO a)(c:iT (some (b,x)) kind a ws=(w,0))(d:js (some (b,x)) kind a ws=some (b,e)):Laid x.sp.mem e.sp.mem w (ws.length+1):=by
 unfold iT at c;unfold js at d;by_cases hk:(1<=kind/\kind<=13)/\a<281474976710656
 case neg=>rw[ka hk]at c;simp at c
 rw[kb (λh=>h hk)]at c d;by_cases j:62<ws.length
 ·rw[ka j]at c;simp at c
 rw[kb j]at c d;have i:(x.sp.put (oN kind) 3 ((a*65536+ws.length*256+kind*8+5)::ws)).2=(w,0):=c
 have k:{x with sp:=(x.sp.put (oN kind) 3 ((a*65536+ws.length*256+kind*8+5)::ws)).1}=e:=by
  have h:some (b,{x with sp:=(x.sp.put (oN kind) 3 ((a*65536+ws.length*256+kind*8+5)::ws)).1})=some (b,e):=d;simpa using h
 have h:=uE (kind:=oN kind) (tag:=3) (ws:=(a*65536+ws.length*256+kind*8+5)::ws) m GF (λv g=>by
  rcases Ew.1 g with rfl | g
  ·have:=f.1;exact⟨GF,GF⟩
  ·exact l v g) GH (by rw[i])
 rw[i]at h;subst k;exact h
variable{a o:Int}{b v:List Int}{d q:Mem}{g:ByteArray}{H i x:zV}{j r:Hp}{k:Blk}{u:List ByteArray}{w:Dt}
theorem sE(h:jp g):kI (cF g)=g:=by
 rw[oq (qB g),vz h.1]
theorem qJ{s:Sp}(e:SpOK s)(hm:BP 0 a o)(h:(s.alloc 0 a o).2.2≠0):(s.alloc 0 a o).2.2=2:=by
 have d: ¬1<=s.mem.free:=λd=>h (Sp.alloc_can e hm d);have hk:0<=a/\a<=3:=by unfold BP at hm;omega
 have b:s.mem.free=0:=by
  have b:0<=s.mem.free:=by rw[e.mem.free];omega
  omega
 have g:s.mem.take 0 a=(s.mem,0,2):=by unfold Mem.take;rw[kb GF,ka b]
 unfold Sp.alloc at h⊢;rw[kb (λf=>f hm)]at h⊢;by_cases c:s.cur (0:Int).toNat a.toNat≠0/\(s.mem.bump (s.cur (0:Int).toNat a.toNat-1) o).2.2=0
 ·rw[ka c]at h;exact absurd rfl h
 ·rw[kb c,g];rfl
theorem ow(L:Live H i k j)(q:j.sp.mem.Even){kind more:Int}{ws:List Int}(g:1<=kind/\kind<=13)(f:0<=more/\more<281474976710656)(t:ws.length<=62)(m: ∀w∈ws,aO w):
  ∃(w e:Int) (d:Hp),iT (some (k,j)) kind more ws=(w,e)/\js (some (k,j)) kind more ws=some (k,d)/\((e=0/\tj j d w kind more ws/\Laid j.sp.mem d.sp.mem w (ws.length+1))\/((e=2/\w=0)/\d=j)):=by
 obtain⟨w,e,d,b,o,h⟩:=ru L q (kind:=kind) (more:=more) m ⟨f.1,GF⟩;refine⟨w,e,d,b,o,?_⟩;rcases h with⟨rfl,_,hm⟩ | ⟨s,rfl⟩
 ·exact .inl ⟨rfl,hm,xj L.ok m ⟨f.1,GF⟩ b o⟩
 ·refine .inr ⟨?_,rfl⟩
  have p:iT (some (k,d)) kind more ws=(d.sp.put (oN kind) 3 ((more*65536+ws.length*256+kind*8+5)::ws)).2:=by
   unfold iT;rw[kb (λh=>h ⟨g,f.2⟩),kb GF];rfl
  rw[p]at b;unfold Sp.put at b;by_cases c:(d.sp.alloc 0 (oN kind) (((more*65536+ws.length*256+kind*8+5)::ws).length:Nat)).2.2=0
  ·exfalso;have hm:BP 0 (oN kind) (((more*65536+ws.length*256+kind*8+5)::ws).length:Nat):=sD c
   have r:=Sp.put_ok L.ok hm (tag:=3) (.inr (.inr (.inl rfl))) (λv l=>by
    rcases Ew.1 l with rfl | l
    ·exact⟨GF,GF⟩
    ·exact m v l) c
   obtain⟨a,n,_⟩:=r;unfold Sp.put at n;rw[n]at b;simp at b;omega
  ·rw[kb c]at b;have hm:BP 0 (oN kind) (((more*65536+ws.length*256+kind*8+5)::ws).length:Nat):=⟨GF,.inr ⟨by unfold oN;split<;>omega,by simp only[List.length_cons];omega,by simp only[List.length_cons];omega⟩⟩;have:=qJ L.ok hm c;rw[this]at b;simp at b;exact⟨b.2.symm,b.1.symm⟩
theorem zF(L:Live H i k j)(t:j.sp.mem.Even)(q:aO a)(s:aO o):
  ∃(w e:Int) (c:Hp),BG (some (k,j)) 0 1 [a,o]=(w,e)/\BV (some (k,j)) 0 1 [a,o]=some (k,c)/\((e=0/\ti j c w 1 a o/\Laid j.sp.mem c.sp.mem w 2)\/((e=2/\w=0)/\c=j)):=by
 obtain⟨w,e,c,g,l,h⟩:=rt L t (tag:=1) (.inl rfl) q s;have g:BG (some (k,j)) 0 1 [a,o]=(w,e):=g;have l:BV (some (k,j)) 0 1 [a,o]=some (k,c):=l;refine⟨w,e,c,g,l,?_⟩;have b:(j.sp.put 0 1 [a,o]).2=(w,e):=g;rcases h with⟨rfl,r⟩ | ⟨u,rfl⟩
 ·refine .inl ⟨rfl,r,?_⟩
  have n:{j with sp:=(j.sp.put 0 1 [a,o]).1}=c:=by
   have h:some (k,{j with sp:=(j.sp.put 0 1 [a,o]).1})=some (k,c):=l;simpa using h
  have h:=uE (kind:=0) (tag:=1) (ws:=[a,o]) L.ok (.inl rfl) (λv f=>by
   simp at f;rcases f with rfl | rfl<;>assumption) GH (by rw[b])
  rw[b]at h;subst n;exact h
 ·refine .inr ⟨?_,rfl⟩;have hm:BP 0 0 (([a,o]:List Int).length:Nat):=⟨GF,.inl ⟨GF,rfl⟩⟩;unfold Sp.put at b;by_cases d:(c.sp.alloc 0 0 (([a,o]:List Int).length:Nat)).2.2=0
  ·exfalso
   obtain⟨p,m,_⟩:=Sp.put_ok L.ok hm (tag:=1) (.inl rfl) (λv f=>by
    simp at f;rcases f with rfl | rfl<;>assumption) d
   unfold Sp.put at m;rw[m]at b;simp at b;omega
  ·rw[kb d]at b;have:=qJ L.ok hm d;rw[this]at b;simp at b;exact⟨b.2.symm,b.1.symm⟩
theorem make_no(L:Live H i k j)(d:j.sp.mem.Even){kind more:Int}{ws:List Int}(a:1<=kind/\kind<=13)(b:0<=more/\more<281474976710656)(f:ws.length<=62)(g: ∀w∈ws,aO w)(h:iT (some (k,j)) kind more ws=(0,2)):j.sp.mem.free<1:=by
 by_cases e:1<=j.sp.mem.free
 ·obtain⟨w,l,c,_⟩:=xe L d a b f g e;rw[c]at h;simp at h
 ·omega
theorem cons_no{x:Hp}(L:Live H i k x)(e:x.sp.mem.Even)(c:aO a)(d:aO o)(h:BG (some (k,x)) 0 1 [a,o]=(0,2)):x.sp.mem.free<1:=by
 by_cases f:1<=x.sp.mem.free
 ·obtain⟨w,g,b,_⟩:=xd L e (tag:=1) (.inl rfl) c d f;have b:BG (some (k,x)) 0 1 [a,o]=(w,0):=b;rw[b]at h;simp at h
 ·omega
def tE:ByteArray:=⟨#[]⟩
def CI(k:Int):Option Int:=if k=0 then some 20 else if k=1 then some 12 else if k=2 then some 4 else if k=9 then some 36 else if k=10 then some 28 else none
def l8(m:Mem)(w:Int)(t:ByteArray):Prop:= ∃s,fC m w 4 0 [s]/\fC m s 2 0 (cF t)
def AP(m:Mem)(w:Int)(neg:Bool)(mag:List Int):Prop:=
 (w % 8=0/\aO w/\(eL (decide (signed w / 8<0)) (Ca (signed w / 8))).1=neg/\(eL (decide (signed w / 8<0)) (Ca (signed w / 8))).2.1=mag)\/fC m w 3 (if neg=true then 1 else 0) mag
inductive fZ (Q:Int->Prop) (m:Mem) (syl:List Int):Int->Dt->Prop
 | con {w k:Int} (h:CI k=some w):fZ Q m syl w (.mk k 0 false [] tE [])
 | chr {c:Int} (h:jW c=true):fZ Q m syl (c*256+60) (.mk 3 c false [] tE [])
 | num {w:Int} {neg:Bool} {mag:List Int} (h:AP m w neg mag) (hm:Bv neg mag=true) (hl: ∀x∈mag,gK x):fZ Q m syl w (.mk 4 0 neg mag tE [])
 | str {w:Int} {t:ByteArray} (h:fC m w 2 0 (cF t)) (ht:jp t):fZ Q m syl w (.mk 5 0 false [] t [])
 | sym {w:Int} {t:ByteArray} (h:w∈syl) (hs:l8 m w t) (ht:jp t):fZ Q m syl w (.mk 6 0 false [] t [])
 | vec {w:Int} {ws:List Int} {l:List Dt} (h:fC m w 1 0 ws) (hl:ws.length=l.length) (each: ∀(i:Nat) (h1:i<ws.length) (h2:i<l.length),fZ Q m syl ws[i] l[i]):fZ Q m syl w (.mk 8 0 false [] tE l)
 | pair {w a b:Int} {x y:Dt} (h:Pr m w 1 a b) (hq:Q w) (ha:fZ Q m syl a x) (hb:fZ Q m syl b y):fZ Q m syl w (.mk 7 0 false [] tE [x,y])
theorem oR(h:CI a=some o):aO o/\o % 8=4:=by
 unfold CI at h;split at h
 ·cases h;exact⟨⟨GG,GG⟩,GG⟩
 split at h
 ·cases h;exact⟨⟨GG,GG⟩,GG⟩
 split at h
 ·cases h;exact⟨⟨GG,GG⟩,GG⟩
 split at h
 ·cases h;exact⟨⟨GG,GG⟩,GG⟩
 split at h
 ·cases h;exact⟨⟨GG,GG⟩,GG⟩
 cases h
theorem uF(h:jW a=true):0<=a/\a<=1114111:=by
 have b:(0<=a/\a<=1114111)/\(a<55296\/57343<a):=by simpa[jW]using h
 exact b.1
theorem fZ.word{Q:Int->Prop}(h:fZ Q d b a w):aO a:=by
 cases h with
 | con h=>exact(oR h).1
 | chr h=>have:=uF h;exact⟨GF,GF⟩
 | num h _ _=>
  rcases h with h | h
  ·exact h.2.1
  ·exact h.word
 | str h _=>exact h.word
 | sym _ h _=>obtain⟨s,h,_⟩:=h;exact h.word
 | vec h _ _=>exact h.word
 | pair h _ _ _=>exact h.word
theorem l8.keep(hn: ∀k,(d.seg k).n<=64)(k:Keep d q)(h:l8 d a g):l8 q a g:=by
 obtain⟨s,b,c⟩:=h;exact⟨s,b.keep hn k,c.keep hn k⟩
theorem fZ.keep{Q:Int->Prop}{syl b:List Int}(hn: ∀k,(d.seg k).n<=64)(k:Keep d q)(m: ∀a∈syl,a∈b)(h:fZ Q d syl a w):fZ Q q b a w:=by
 induction h with
 | con h=>exact .con h
 | chr h=>exact .chr h
 | num h hm c=>
  rcases h with h | h
  ·exact .num (.inl h) hm c
  ·exact .num (.inr (h.keep hn k)) hm c
 | str h e=>exact .str (h.keep hn k) e
 | sym h j e=>exact .sym (m _ h) (j.keep hn k) e
 | vec h c i o=>exact .vec (h.keep hn k) c o
 | pair h l p r f g=>exact .pair (h.keep k) l f g
theorem fZ.weaken{Q j:Int->Prop}(m: ∀a,Q a->j a)(h:fZ Q d b a w):fZ j d b a w:=by
 induction h with
 | con h=>exact .con h
 | chr h=>exact .chr h
 | num h hm c=>exact .num h hm c
 | str h f=>exact .str h f
 | sym h l f=>exact .sym h l f
 | vec h c k n=>exact .vec h c n
 | pair h e o p g i=>exact .pair h (m _ e) g i
theorem iW(h:l8 d a g)(f:jp g):iP d a=(g,0):=by
 obtain⟨s,c,b⟩:=h;unfold iP;have e:d.get (a / 8+1+0)=s:=by have:=c.get 0 GH;simpa using this
 rw[ka (c.field_in ⟨GF,GH⟩),e,ka ⟨b.obj,b.typ⟩,b.words,sE f]
def iO(m:Mem)(syl:List Int):Prop:= ∀w∈syl,∃t,l8 m w t/\jp t/\jQ m syl t=some w
theorem nS{m a:Mem}(hn: ∀k,(m.seg k).n<=64)(k:Keep m a)(t:ByteArray): ∀{syl:List Int},(∀w∈syl,∃t,l8 m w t/\jp t)->jQ a syl t=jQ m syl t
 | [],_=>rfl
 | w::r,h=>by
  obtain⟨u,b,c⟩:=h w GH;have e:lL a t w=lL m t w:=by unfold lL;rw[iW b c,iW (b.keep hn k) c]
  have d:=nS hn k t (syl:=r) (λv f=>h v (by simp[f]));unfold jQ at d⊢;rw[List.find?_cons,List.find?_cons,e,d]
theorem iO.keep{syl:List Int}(hn: ∀k,(d.seg k).n<=64)(k:Keep d q)(h:iO d syl):iO q syl:=λw i=>by
 obtain⟨t,c,e,f⟩:=h w i;exact⟨t,c.keep hn k,e,by rw[nS hn k t (λv g=>by obtain⟨u,a,b,_⟩:=h v g;exact⟨u,a,b⟩)];exact f⟩
theorem xk(h:jQ d b g=some a):a∈b/\lL d g a=true:=by
 unfold jQ at h;exact⟨List.mem_of_find?_eq_some h,List.find?_some h⟩
theorem yG{u:ByteArray}(h:lL d g a=true)(b:l8 d a u)(c:jp u):u=g:=by
 unfold lL at h;rw[iW b c]at h;simp only[EF,Ex]at h;have:=h.2;rw[Lib.toList_data,Lib.toList_data]at this;exact F1 (Array.toList_inj.1 this)
theorem iO.found(h:iO d b)(j:jQ d b g=some a):a∈b/\l8 d a g:=by
 obtain⟨c,f⟩:=xk j;obtain⟨u,e,i,_⟩:=h a c;have:=yG f e i;subst this;exact⟨c,e⟩
theorem iO.find(h:iO d b)(m:a∈b)(k:l8 d a g)(l:jp g):jQ d b g=some a:=by
 obtain⟨u,f,i,j⟩:=h a m
 have e:u=g:=by
  have c:=iW f i;rw[iW k l]at c;exact(Prod.mk.inj c).1.symm
 subst e;exact j
theorem iO.snoc(h:iO d b)(f:l8 d a g)(i:jp g)(l:jQ d b g=none):iO d (b++[a]):=λv c=>by
 rcases EH.1 c with c | c
 ·obtain⟨u,j,k,e⟩:=h v c;refine⟨u,j,k,?_⟩;unfold jQ at e⊢;rw[List.find?_append,e];rfl
 ·simp at c;subst c;refine⟨g,f,i,?_⟩;rw[nR l,ka (by unfold lL;rw[iW f i];simp)]
def lg(m:Mem)(syl:List Int):Int:=(syl.map λw=>3+((cF (iP m w).1).length:Int)).sum
def lF(m:Mem)(syl:List Int):List ByteArray:=syl.map λw=>(iP m w).1
theorem vE(hn: ∀k,(d.seg k).n<=64)(k:Keep d q)(h:iO d b): ∀w∈b,iP q w=iP d w:=λw e=>by
 obtain⟨t,a,c,_⟩:=h w e;rw[iW a c,iW (a.keep hn k) c]
theorem ox(hn: ∀k,(d.seg k).n<=64)(k:Keep d q)(h:iO d b):lg q b=lg d b/\lF q b=lF d b:=by
 have e:=vE hn k h;unfold lg lF;rw[Gm (λw a=>by rw[e w a]),Gm (f:=λw=>(iP q w).1) (g:=λw=>(iP d w).1) (λw a=>by rw[e w a])];exact⟨rfl,rfl⟩
structure Step (H0 H H':zV) (k:Blk) (x x':Hp) (syl syl':List Int) (c bw:Int) (ns:List ByteArray):Prop where
 sy:SyAt H0 H' k x' syl'
 fr:Fr (k.all++syB x.sy) H H'
 syB: ∀i∈syB x'.sy,i∈syB x.sy\/H.size<=i
 keep:Keep x.sp.mem x'.sp.mem
 even:x'.sp.mem.Even
 count:x'.sp.mem.count<=x.sp.mem.count+c/\x.sp.mem.free<=x'.sp.mem.free+c
 len:(syl'.length:Int)<=syl.length+c/\(syl.Nodup->syl'.Nodup)
 inv:iO x'.sp.mem syl'
 sub: ∀w∈syl,w∈syl'
 words:x'.sp.mem.words [0]-lg x'.sp.mem syl'=x.sp.mem.words [0]-lg x.sp.mem syl+bw
 names: ∀t,t∈lF x'.sp.mem syl' ↔ t∈lF x.sp.mem syl\/t∈ns
theorem Step.refl{k:Blk}{x:Hp}(S:SyAt H i k x b)(a:x.sp.mem.Even)(c:iO x.sp.mem b):Step H i i k x x b b 0 0 []:=
 ⟨S,Ey _ _,λd h=> .inl h,Keep.refl _,a,GF,⟨GF,λh=>h⟩,c,λw h=>h,GF,GH⟩
theorem Step.trans{o H p f:zV}{k:Blk}{n:Hp}{e d:List Int}{c s q g:Int}{m:List ByteArray}(a:Step o H p k j r v e c q u)(b:Step o p f k r n e d s g m):
  Step o H f k j n v d (c+s) (q+g) (u++m):=by
 have y:=a.fr.size;refine⟨b.sy,a.fr.trans' b.fr (λi l _=>l) (λi l x=>?_),λi l=>?_,a.keep.trans b.keep,b.even,by have:=a.count;have:=b.count;omega,⟨by have:=a.len.1;have:=b.len.1;omega,λh=>b.len.2 (a.len.2 h)⟩,b.inv,λw h=>b.sub w (a.sub w h),by have:=a.words;have:=b.words;omega,λt=>?_⟩
 ·rcases EH.1 l with h | h
  ·exact EH.2 (.inl h)
  ·rcases a.syB i h with h | h
   ·exact EH.2 (.inr h)
   ·omega
 ·rcases b.syB i l with h | h
  ·exact a.syB i h
  ·exact .inr GF
 ·rw[b.names,a.names,EH];exact or_assoc
theorem Step.grow{c:zV}{k:Blk}(d:Step H i x k j r b v a o u)(e:Ext x c):Step H i c k j r b v a o u:=
 ⟨d.sy.keep rfl (e.fr (S:=[])) GH,d.fr.trans e.fr,d.syB,d.keep,d.even,d.count,d.len,d.inv,d.sub,d.words,d.names⟩
theorem Step.le{c:Int}(d:Step H i x k j r b v a c u)(h:a<=o):Step H i x k j r b v o c u:=
 ⟨d.sy,d.fr,d.syB,d.keep,d.even,by have:=d.count;omega,⟨by have:=d.len.1;omega,d.len.2⟩,d.inv,d.sub,d.words,d.names⟩
theorem Step.at{g H f:zV}{k:Blk}{x j:Hp}{c i d:Int}{e:List ByteArray}(a:Step g H f k x j b v c i u)(h:i=d)(l: ∀t,t∈u ↔ t∈e):Step g H f k x j b v c d e:=
 ⟨a.sy,a.fr,a.syB,a.keep,a.even,a.count,a.len,a.inv,a.sub,h▸a.words,λt=>by rw[a.names,l]⟩
theorem Step.made(S:SyAt H i k j b)(L:Live H i k j)(c:iO j.sp.mem b){n:Nat}(f:Fr k.all i x)(hk:Keep j.sp.mem r.sp.mem)(m:r.sp.mem.Even)(l:r.sp.mem.count<=j.sp.mem.count+1)(o:j.sp.mem.free-1<=r.sp.mem.free)(d:r.sy=j.sy)(p:Laid j.sp.mem r.sp.mem a n):
  Step H i x k j r b b 1 n []:=by
 have hn: ∀q,(j.sp.mem.seg q).n<=64:=L.n64;obtain⟨e,g⟩:=ox hn hk c;refine⟨S.keep d f (λs c=> .inl c),f.mono (λs c _=>by simp[c]),λs h=>by rw[d]at h;exact .inl h,hk,m,⟨l,GF⟩,⟨GF,λh=>h⟩,c.keep hn hk,λa h=>h,?_,λt=>by rw[g];simp⟩;have:=p.words [0] (.inr rfl);rw[e,this];omega
variable{H k:zV}{d:Blk}{g:Hp}{i o:Int}{j:Nat->Bool}{q:Sp}
structure Tr where
 tgt:Int
 old:Nat->Bool
 frm:List (Int×Value)
 seen:List (Int×Value)
 cards:List (Int×Int)
 over:Bool
variable{b:Tr}
structure TB where
 t:Nat
 f:Nat
 s:Nat
 cB:zW
 cN:Nat
 cC:Nat
variable{a:TB}
def TB.all(q:TB):List Nat:=q.t::q.f::q.s::l6 q.cB
def fx(l:List (Int×Int)):List Value:=l.flatMap λc=> [vi c.1,vi c.2]
structure TrAt (H:zV) (b:Blk) (q:TB) (t:Tr):Prop where
 tr: ∃cs:Array Value,H[q.t]?=some (.cells cs 125 (0,0))/\cs.size=1030/\cs[0]?=some (vp (some ⟨b.h,0,none⟩))/\cs[1]?=some (vi t.tgt)/\(∀k,k<1024->cs[2+k]?=some (vi (if t.old k then 1 else 0)))/\cs[1026]?=some (.map (some q.f))/\cs[1027]?=some (.map (some q.s))/\cs[1028]?=some (vs q.cB q.cN q.cC)/\cs[1029]?=some (vi (if t.over then 1 else 0))
 frm: ∃(es:Array MapEntry) (cl:Nat),H[q.f]?=some (.map es cl)/\p8 (fB .i64) es.toList t.frm
 seen: ∃(es:Array MapEntry) (cl:Nat),H[q.s]?=some (.map es cl)/\p8 (fB .i64) es.toList t.seen
 cards:bV H q.cB (fx t.cards)
 cB: ∀a,q.cB=some a->a.block<H.size
 clen:q.cN=t.cards.length/\q.cN<=4096
 ne:q.t≠q.f/\q.t≠q.s/\q.f≠q.s/\ ∀i∈l6 q.cB,i≠q.t/\i≠q.f/\i≠q.s
theorem TrAt.lt{b:Blk}{t:Tr}(h:TrAt H b a t): ∀i,i∈a.all->i<H.size:=by
 intro i c;obtain⟨p,g,_⟩:=h.tr;obtain⟨q,o,j,_⟩:=h.frm;obtain⟨f,e,k,_⟩:=h.seen;have l:=aS g;have m:=aS j;have n:=aS k;simp only[TB.all,Ew]at c;rcases c with rfl | rfl | rfl | c
 ·exact l
 ·exact m
 ·exact n
 ·cases d:a.cB with
  | none=>rw[d]at c;simp at c
  | some r=>rw[d]at c;simp at c;rw[c];exact h.cB r d
theorem TrAt.keep{S:List Nat}{q:TB}(h:TrAt H d q b)(f:Fr S H k)(e: ∀i,i∈S->i ∉ q.all):TrAt k d q b:=by
 obtain⟨r,t,x⟩:=h.tr;obtain⟨s,p,u,n⟩:=h.frm;obtain⟨l,j,v,o⟩:=h.seen;refine⟨⟨r,f.get (λc=>e _ c (by simp[TB.all])) t,x⟩,⟨s,p,f.get (λc=>e _ c (by simp[TB.all])) u,n⟩,⟨l,j,f.get (λc=>e _ c (by simp[TB.all])) v,o⟩,?_,λa w=>Fh (h.cB a w) f.size,h.clen,h.ne⟩;have g:=h.cards
 cases m:q.cB with
 | none=>rw[m]at g;exact g
 | some a=>
  rw[m]at g;exact f.rowAt (λc=>e _ c (by simp[TB.all,m])) g
theorem TrAt.ext{b:Blk}{t:Tr}(h:TrAt H b a t)(e:Ext H k):TrAt k b a t:=h.keep (S:=[]) e.fr GH
theorem TrAt.hPtr(h:TrAt H d a b):hat H ⟨a.t,0,none⟩=some (vp (some ⟨d.h,0,none⟩)):=by
 obtain⟨f,e,_,c,_⟩:=h.tr;rw[aW e,c]
theorem TrAt.tgtAt(h:TrAt H d a b):hat H ⟨a.t,1,none⟩=some (vi b.tgt):=by
 obtain⟨f,e,_,_,c,_⟩:=h.tr;rw[aW e,c]
theorem TrAt.oldAt(h:TrAt H d a b){k:Nat}(hk:k<1024):hat H ⟨a.t,2+k,none⟩=some (vi (if b.old k then 1 else 0)):=by
 obtain⟨f,e,_,_,_,c,_⟩:=h.tr;rw[aW e,c k hk]
theorem TrAt.fAt{H:zV}(h:TrAt H d a b):hat H ⟨a.t,1026,none⟩=some (.map (some a.f)):=by
 obtain⟨g,e,_,_,_,_,c,_⟩:=h.tr;rw[aW e,c]
theorem TrAt.sAt(h:TrAt H d a b):hat H ⟨a.t,1027,none⟩=some (.map (some a.s)):=by
 obtain⟨f,e,_,_,_,_,_,c,_⟩:=h.tr;rw[aW e,c]
theorem TrAt.cAt(h:TrAt H d a b):hat H ⟨a.t,1028,none⟩=some (vs a.cB a.cN a.cC):=by
 obtain⟨f,e,_,_,_,_,_,_,c,_⟩:=h.tr;rw[aW e,c]
theorem TrAt.oAt(h:TrAt H d a b):hat H ⟨a.t,1029,none⟩=some (vi (if b.over then 1 else 0)):=by
 obtain⟨f,e,_,_,_,_,_,_,_,c⟩:=h.tr;rw[aW e,c]
structure Tc (H:zV) (b:Blk) (x:Hp) (q:TB) (t:Tr):Prop where
 hp:HpAt H b x
 ok:SpOK x.sp
 tr:TrAt H b q t
 apart: ∀i,i∈q.all->i ∉ b.all
theorem Tc.ext{b:Blk}{t:Tr}(h:Tc H b g a t)(e:Ext H k):Tc k b g a t:=⟨h.hp.ext e,h.ok,h.tr.ext e,h.apart⟩
theorem Tc.keep{S:List Nat}(h:Tc H d g a b)(f:Fr S H k)(c: ∀i,i∈S->i ∉ d.all)(e: ∀i,i∈S->i ∉ a.all):Tc k d g a b:=⟨h.hp.keep f c,h.ok,h.tr.keep f e,h.apart⟩
theorem Tc.view(h:Tc H d g a b):View H (some ⟨d.h,0,none⟩) (some (d,g)):=.real h.hp h.ok
theorem Tc.step{S:List Nat}{H a:zV}{b:Blk}{x c:Hp}{q:TB}{t:Tr}(h:Tc H b x q t)(f:Fr S H a)(d: ∀i,i∈S->i∈b.all)(g:HpAt a b c)(k:SpOK c.sp):Tc a b c q t:=
 ⟨g,k,h.tr.keep f (λi e j=>h.apart i j (d i e)),h.apart⟩
abbrev Bm(b:Blk):List Nat:=[b.sp,b.m,b.s]
theorem kQ{i:Nat}(h:i∈Bm d):i∈d.all:=by simp[Bm]at h;simp[Blk.all];omega
theorem Tc.withMem{S:List Nat}{m:Mem}(h:Tc H d g a b)(f:Fr S H k)(c: ∀i,i∈S->i=d.m\/i=d.s)(hm:eG k d.m d.s m)(j:SpOK {g.sp with mem:=m}):Tc k d {g with sp:={g.sp with mem:=m}} a b:=
 h.step f (λi e=>by rcases c i e with rfl | rfl<;>simp[Blk.all]) (h.hp.withMem f c hm) j
theorem Tc.s1(h:Tc H d g a b):hat H ⟨a.t,0,none⟩=some (vp (some ⟨d.h,0,none⟩))/\hat H ⟨d.h,0,none⟩=some (vp (some ⟨d.c,0,none⟩))/\hat H ⟨d.c,0,none⟩=some (vp (some ⟨d.sp,0,none⟩))/\hat H ⟨d.sp,0,none⟩=some (vp (some ⟨d.m,0,none⟩)):=
 ⟨h.tr.hPtr,h.hp.hPtr,h.hp.cd.cPtr,h.hp.cd.sp.memPtr⟩
theorem li(T:Tc H d g a b):cK.C (some ⟨a.t,0,none⟩) H (λv c=>v=.bool b.over/\c=H):=by
 refine Ei λR e=>cK.link ?_;unfold cK.pt;rw[El];refine⟨_,T.tr.hPtr,?_⟩;rw[El];refine⟨_,by rw[Ej];exact T.tr.oAt,e _ _ ⟨?_,rfl⟩⟩;cases b.over<;>rfl
def aU(old:Nat->Bool)(w:Int):Prop:=ic w/\w % 8≠6/\old (w / 8 / 64).toNat=true
instance (old:Nat->Bool) (w:Int):Decidable (aU old w):=by unfold aU;infer_instance
theorem qK(w:Int): ∃(a:Int) (p:Bool),(if(w % 8=1\/w % 8=2\/w % 8=3\/w % 8=6)/\w / 8<65536 then Value.tuple #[vi (w / 8),VT]else .tuple #[vi 0,VF])=.tuple #[vi a,.bool p]/\((ic w/\p=true/\a=w / 8)\/(¬ic w/\p=false/\a=0)):=by
 by_cases b:(w % 8=1\/w % 8=2\/w % 8=3\/w % 8=6)/\w / 8<65536
 ·rw[ka b];exact⟨_,_,rfl,.inl ⟨b,rfl,rfl⟩⟩
 ·rw[kb b];exact⟨_,_,rfl,.inr ⟨b,rfl,rfl⟩⟩
theorem qL(T:Tc H d g a b)(q:aO i):
  eJ.C (some ⟨a.t,0,none⟩) i H (λv f=>v=.bool (decide (b.over=false/\aU b.old i))/\Ext H f):=by
 refine Ei λR s=>eJ.link ?_;unfold eJ.pt zY;refine gc (kf q) ?_;rintro _ y ⟨rfl,c⟩;obtain⟨B,p,w,u⟩:=qK i;refine⟨B,p,w,?_⟩;refine gc (li (T.ext c)) ?_;rintro _ z ⟨rfl,rfl⟩;refine⟨_,rfl,?_⟩;have no: ∀f,¬(b.over=false/\aU b.old i)->Ext H f->R VF f:=λf hn e=>s _ _ ⟨by rw[zQ hn],e⟩;by_cases l:b.over=true
 ·rw[ka l];exact no _ (λh=>by rw[l]at h;cases h.1) c
 rw[kb l];rcases u with⟨k,rfl,rfl⟩ | ⟨k,rfl,rfl⟩
 case inr=>rw[kb GG];exact no _ (λh=>k h.2.1) c
 rw[ka rfl];refine gc (gk q) ?_;rintro _ A ⟨rfl,o⟩;refine⟨_,rfl,?_⟩;by_cases j:i % 8=6
 ·rw[ka j];exact no _ (λh=>h.2.2.1 j) (c.trans o)
 rw[kb j];have x:i / 8<65536:=k.2;have r:0<=i / 8:=by have:=q.1;omega
 rw[lT r,n5 (n:=i / 8 / 64) GF];have t:=T.ext (c.trans o);refine⟨_,rfl,⟨GF,GF⟩,(if b.old (i / 8 / 64).toNat then 1 else 0),?_,s _ _ ⟨?_,c.trans o⟩⟩
 ·rw[Ej,Ej,Eo,EG];exact t.tr.oldAt GF
 ·congr 1;by_cases m:b.old (i / 8 / 64).toNat=true
  ·rw[ka m,zX ⟨by simpa using l,k,j,m⟩];rfl
  ·rw[kb m,zQ (λh=>m h.2.2.2)];rfl
def Mem.fwd(m:Mem)(w:Int):Option Int:=if m.used (w / 8)/\ic (m.get (w / 8))/\m.get (w / 8) % 8=6 then some (m.get (w / 8) / 8*8+w % 8)else none
theorem qM(T:Tc H d g a b)(t:aO i)(q:ic i):
  dQ.C (some ⟨a.t,0,none⟩) i H (λv k=>v=.tuple #[vu ((g.sp.mem.fwd i).getD i),.bool (g.sp.mem.fwd i).isSome]/\Ext H k):=by
 refine Ei λR w=>dQ.link ?_;unfold dQ.pt;refine gc (kf t) ?_;rintro _ M ⟨rfl,l⟩;rw[ka (show(i % 8=1\/i % 8=2\/i % 8=3\/i % 8=6)/\i / 8<65536 from q)];have o:=T.ext l;obtain⟨I,J,K,L⟩:=o.s1;refine⟨_,_,rfl,_,rfl,_,I,_,rfl,_,J,_,rfl,_,K,_,rfl,_,L,?_⟩;have G:i / 8<65536:=q.2;have F:0<=i / 8:=by have:=t.1;omega
 refine gc (je o.hp.cd.sp.mem o.ok.mem GF) ?_;rintro _ N ⟨rfl,rfl⟩
 have j: ∃(V e:Int),(if g.sp.mem.used (i / 8)then Value.tuple #[vu (g.sp.mem.get (i / 8)),vi 0]else .tuple #[vu 0,vi 18])=.tuple #[vu V,vi e]/\aO V/\((g.sp.mem.used (i / 8)/\V=g.sp.mem.get (i / 8)/\e=0)\/(¬g.sp.mem.used (i / 8)/\V=0/\e=18)):=by
  by_cases c:g.sp.mem.used (i / 8)
  ·rw[ka c];exact⟨_,_,rfl,(T.ok.mem.seg _).words _,.inl ⟨c,rfl,rfl⟩⟩
  ·rw[kb c];exact⟨_,_,rfl,GG,.inr ⟨c,rfl,rfl⟩⟩
 obtain⟨V,e,s,f,z⟩:=j;refine⟨V,e,s,?_⟩;refine gc (kf f) ?_;rintro _ O ⟨rfl,m⟩;obtain⟨U,p,E,r⟩:=qK V;refine⟨U,p,E,?_⟩;have no: ∀k,¬(g.sp.mem.used (i / 8)/\ic (g.sp.mem.get (i / 8))/\g.sp.mem.get (i / 8) % 8=6)->Ext H k->R (.tuple #[vu i,VF]) k:=λk hn e=>w _ _ ⟨by unfold Mem.fwd;rw[kb hn];rfl,e⟩;rcases z with⟨c,rfl,rfl⟩ | ⟨c,rfl,rfl⟩
 case inr=>rw[kb GG];exact no _ (λh=>c h.1) (l.trans m)
 rw[ka rfl];rcases r with⟨j,rfl,rfl⟩ | ⟨j,rfl,rfl⟩
 case inr=>rw[kb GG];exact no _ (λh=>j h.2.1) (l.trans m)
 rw[ka rfl];refine gc (gk f) ?_;rintro _ P ⟨rfl,u⟩;refine⟨_,rfl,?_⟩;by_cases n:g.sp.mem.get (i / 8) % 8=6
 case neg=>rw[kb n];exact no _ (λh=>n h.2.2) ((l.trans m).trans u)
 rw[ka n];refine gc (gk t) ?_;rintro _ Q ⟨rfl,x⟩;refine⟨_,rfl,?_⟩;have B:g.sp.mem.get (i / 8) / 8<65536:=j.2;have A:=f.1;refine gc (ni GF GF) ?_;rintro _ S ⟨rfl,y⟩;rw[kb (λD=>D q.1),ka GF];refine⟨_,_,rfl,w _ _ ⟨?_,((((l.trans m).trans u).trans x).trans y)⟩⟩;unfold Mem.fwd;rw[ka ⟨c,j,n⟩];rfl
theorem oy(T:Tc H d g a b)(j:aO i):
  cU.C (some ⟨a.t,0,none⟩) i H (λv k=>v=.bool (decide (¬(b.over=false/\aU b.old i)) || (g.sp.mem.fwd i).isSome)/\Ext H k):=by
 refine Ei λR f=>cU.link ?_;unfold cU.pt;refine gc (qL T j) ?_;rintro _ m ⟨rfl,e⟩;refine⟨_,rfl,?_⟩;by_cases c:b.over=false/\aU b.old i
 ·rw[ka (zX c)];refine gc (qM (T.ext e) j c.2.1) ?_;rintro _ n ⟨rfl,l⟩;refine⟨_,_,rfl,f _ _ ⟨?_,e.trans l⟩⟩;rw[zQ (λh=>h c),Bool.false_or]
 ·rw[kb (by simpa using c)];exact f _ _ ⟨by rw[zX c,Bool.true_or],e⟩
def Mem.row(m:Mem)(a:Int)(n:Nat):List Int:=(List.range n).map λi:Nat=>m.get (a+(i:Int))
theorem Mem.row_len(m:Mem)(a:Int)(n:Nat):(m.row a n).length=n:=by simp[Mem.row]
theorem Mem.row_get(m:Mem)(a:Int){n i:Nat}(h:i<n):(m.row a n)[i]'(by rw[Mem.row_len];exact h)=m.get (a+i):=by simp[Mem.row]
theorem Mem.row_take(m:Mem)(a:Int){n i:Nat}(h:i<n):(m.row a n).take (i+1)=(m.row a n).take i++[m.get (a+i)]:=by
 rw[EL (by rw[Mem.row_len];exact h),Mem.row_get m a h]
def Mem.kindOf(m:Mem)(w:Int):Int:=(m.seg (w / 8 / 64).toNat).kind
def Sp.moved(m:Mem)(w:Int)(r:Sp×Int×Int):Sp:={r.1 with mem:=(r.1.mem.sets r.2.1 (m.row (w / 8) (m.sizeOf w).toNat)).set (w / 8) (r.2.1*8+6)}
def Sp.visit(s:Sp)(old:Nat->Bool)(T w:Int):Sp×Int:=
 if ¬aU old w then(s,w)
 else match s.mem.fwd w with
  | some v=>(s,v)
  | none=>
   if s.mem.sizeOf w=0 then(s,w)
   else if(s.alloc T (s.mem.kindOf w) (s.mem.sizeOf w)).2.2=0 then
    (Sp.moved s.mem w (s.alloc T (s.mem.kindOf w) (s.mem.sizeOf w)),(s.alloc T (s.mem.kindOf w) (s.mem.sizeOf w)).2.1*8+w % 8)
   else(s,w)
theorem Sp.visit_no(h: ¬aU j o):q.visit j i o=(q,o):=by unfold Sp.visit;rw[ka h]
theorem Sp.visit_fwd{s:Sp}{T w v:Int}(h:aU j w)(a:s.mem.fwd w=some v):s.visit j T w=(s,v):=by unfold Sp.visit;rw[kb (λb=>b h),a]
theorem Sp.visit_0(h:aU j o)(b:q.mem.fwd o=none)(a:q.mem.sizeOf o=0):q.visit j i o=(q,o):=by unfold Sp.visit;rw[kb (λc=>c h),b];simp only[];rw[ka a]
theorem Sp.visit_full(h:aU j o)(c:q.mem.fwd o=none)(a:q.mem.sizeOf o≠0)(b:(q.alloc i (q.mem.kindOf o) (q.mem.sizeOf o)).2.2≠0):q.visit j i o=(q,o):=by unfold Sp.visit;rw[kb (λd=>d h),c];simp only[];rw[kb a,kb b]
theorem Sp.visit_go{T w:Int}(h:aU j w)(c:q.mem.fwd w=none)(a:q.mem.sizeOf w≠0)(b:(q.alloc T (q.mem.kindOf w) (q.mem.sizeOf w)).2.2=0):
  q.visit j T w=(Sp.moved q.mem w (q.alloc T (q.mem.kindOf w) (q.mem.sizeOf w)),(q.alloc T (q.mem.kindOf w) (q.mem.sizeOf w)).2.1*8+w % 8):=by unfold Sp.visit;rw[kb (λd=>d h),c];simp only[];rw[kb a,ka b]
theorem Mem.size_used{m:Mem}(k:bP m)(o:m.Even)(t:aO i)(h:m.sizeOf i≠0):0<m.sizeOf i/\m.sizeOf i<=63/\(∀w:Nat,(w:Int)<m.sizeOf i->m.used (i / 8+w))/\i / 8 % 64+m.sizeOf i<=64/\0<=i / 8/\m.has (i / 8 / 64):=by
 unfold Mem.sizeOf at*;have l:0<=i / 8:=by have:=t.1;omega
 by_cases d:m.isPair i
 ·rw[ka d]at h⊢
  have f:m.has (i / 8 / 64)/\(m.seg (i / 8 / 64).toNat).kind<=1/\i / 8 % 64< (m.seg (i / 8 / 64).toNat).n:=by
   rcases d.1 with q | q
   ·exact⟨q.2.2.1,by rw[q.2.2.2.1];decide,q.2.2.2.2⟩
   ·exact⟨q.2.2.1,by rw[q.2.2.2.1];decide,q.2.2.2.2⟩
  have p:=o _ f.2.1;have u:=d.2;have hn:=(k.seg (i / 8 / 64).toNat).n;refine⟨GG,GG,λw r=>?_,GF,l,f.1⟩;have c:(i / 8+w) / 64=i / 8 / 64:=GF;have e:(i / 8+w) % 64=i / 8 % 64+w:=GF;exact⟨GF,by rw[c];exact f.1,by rw[c,e];omega⟩
 ·rw[kb d]at h⊢;by_cases b:m.isObj i
  ·rw[ka b]at h⊢;have v:=b.len_lt;have g:m.len i=hn (m.get (i / 8)):=by unfold Mem.len;rw[ka b]
   have s:=b.2.2;have j:=(k.seg (i / 8 / 64).toNat).n;have a:=b.1.2.2.1;rw[g];refine⟨GF,GF,λw r=>?_,GF,l,a⟩;have c:(i / 8+w) / 64=i / 8 / 64:=GF;have e:(i / 8+w) % 64=i / 8 % 64+w:=GF;exact⟨GF,by rw[c];exact a,by rw[c,e];omega⟩
  ·rw[kb b]at h;exact absurd rfl h
theorem Grown.not_in{m f:Mem}{k n:Int}(b:Grown m f i n o k){x:Int}(d:m.used x): ¬(i<=x/\x<i+n):=λh=>by
 obtain⟨g,j,l⟩:=b.addr;have a:x / 64=i / 64:=GF;by_cases c:(m.seg (i / 64).toNat).taken=0
 ·have:=d.2.1.2.2;rw[a]at this;exact this c
 ·have p:=(b.old c).2.2.1;have e:=d.2.2;rw[a]at e;omega
theorem Grown.get{m d:Mem}{a g k n:Int}(c:Grown m d a n g k){x:Int}(f:m.used x):d.get x=m.get x:=by
 unfold Mem.get;by_cases b:(x / 64).toNat=(a / 64).toNat
 ·have e:(m.seg (a / 64).toNat).taken≠0:=by rw[<-b];exact f.2.1.2.2
  rw[b,(c.old e).2.2.2.1]
 ·rw[c.others _ b]
set_option maxRecDepth 100000 in
theorem vF(T:Tc H d g a b)(he:g.sp.mem.Even)(U:aO i)(hc:g.sp.mem.count<4611686018427387904)(aB:b.over=false):
  cH.C (some ⟨a.t,0,none⟩) i H (λv u=>v=vu (g.sp.visit b.old b.tgt i).2/\Tc u d {g with sp:=(g.sp.visit b.old b.tgt i).1} a b/\Fr (Bm d) H u):=by
 refine Ei λR A=>cH.link ?_;unfold cH.pt zY;refine gc (qL T U) ?_;rintro _ H1 ⟨rfl,O⟩;refine⟨_,rfl,?_⟩
 have t: ∀(v:Int) u,(g.sp.visit b.old b.tgt i)=(g.sp,v)->Ext H u->R (vu v) u:=λv u h e=>by
  rw[h]at A;exact A _ _ ⟨rfl,T.ext e,e.fr⟩
 by_cases p:aU b.old i
 case neg=>
  rw[kb (by simp[p])];exact t i _ (Sp.visit_no p) O
 rw[ka (zX ⟨aB,p⟩)];have T1:=T.ext O;refine gc (qM T1 U p.1) ?_;rintro _ H2 ⟨rfl,e2⟩;refine⟨_,_,rfl,?_⟩;have K:=O.trans e2
 cases hf:g.sp.mem.fwd i with
 | some v=>
  rw[ka (show(some v).isSome=true from rfl)];exact t v _ (Sp.visit_fwd p hf) K
 | none=>
 rw[kb GH];have T2:=T.ext K;refine⟨_,rfl,_,T2.tr.hPtr,?_⟩;refine gc (vk T2.view U) ?_;rintro _ H3 ⟨rfl,e3⟩;have az:nc (some (d,g))=g.sp.mem:=rfl;rw[az];refine⟨_,rfl,?_⟩;have X:=K.trans e3;by_cases P:g.sp.mem.sizeOf i=0
 ·rw[ka P];exact t i _ (Sp.visit_0 p hf P) X
 rw[kb P];obtain⟨n0,bD,hu,b8,w0,B⟩:=Mem.size_used T.ok.mem he U P;have bC:i / 8<65536:=p.1.2;refine gc (kf U) ?_;rintro _ H4 ⟨rfl,e4⟩;rw[ka (show(i % 8=1\/i % 8=2\/i % 8=3\/i % 8=6)/\i / 8<65536 from p.1)];have Y:=X.trans e4;have T4:=T.ext Y;obtain⟨F,G,I,N⟩:=T4.s1;refine⟨_,_,rfl,_,F,_,rfl,_,G,_,rfl,_,I,_,rfl,_,N,?_⟩;rw[lT w0,n5 (n:=i / 8 / 64) GF];refine gc (lV T4.hp.cd.sp.mem) ?_;rintro _ H5 ⟨rfl,e5⟩;rw[ka B,zX B];have ax:(g.sp.mem.seg (i / 8 / 64).toNat).kind=g.sp.mem.kindOf i:=rfl;generalize bB:g.sp.mem.seg (i / 8 / 64).toNat=J at*;refine⟨_,_,_,_,_,_,_,_,rfl,λb1 H6 hb a7=>?_⟩;obtain⟨au,hs⟩:=E7 (vs:=[vi J.gen,vi J.kind,vi J.n,vi (J.cards 0),vi (J.cards 1),vi (J.cards 2),vi (J.cards 3)]) (H1:=H6) (aK hb a7) rfl rfl;refine⟨au,λH7 ap=>?_⟩;obtain⟨aa,hE⟩:=hs H7 ap;have a0:=Y.trans e5;have e7:Ext H H7:=hE H (a0.trans (Eh a7)) (by have:=a0.size;omega);have W:=T.ext e7;obtain⟨F,G,I,N⟩:=W.s1;refine⟨_,F,_,rfl,_,G,_,rfl,_,I,_,by rw[Ej];exact W.tr.tgtAt,J.kind,aa.2.1,?_⟩;rw[ax];refine gc (nw W.hp.cd.sp W.ok hc) ?_;rintro _ H8 ⟨rfl,aC,f8⟩;refine⟨_,_,rfl,?_⟩;have h8:=W.hp.withSp f8 (λcf S=>by simp at S;omega) aC;have x:Fr (Bm d) H H8:=e7.fr.trans f8;by_cases Q:(g.sp.alloc b.tgt (g.sp.mem.kindOf i) (g.sp.mem.sizeOf i)).2.2=0
 case neg=>
  rw[kb Q];have ev:=Sp.visit_full p hf P Q;rw[ev]at A;rw[Sp.alloc_fail T.ok Q]at h8;exact A _ _ ⟨rfl,T.step x (λcf S=>kQ S) h8 T.ok,x⟩
 rw[ka Q];have ev:=Sp.visit_go p hf P Q;rw[ev]at A;obtain⟨M,f⟩:=FB T.ok Q;unfold Sp.moved at A;simp only at A;generalize hn:g.sp.mem.sizeOf i=n at*;generalize hr:g.sp.alloc b.tgt (g.sp.mem.kindOf i) n=r at*;obtain⟨l,ce,e⟩:=r;simp only at*;have b9:=T.ok.mem.lim;obtain⟨bi,bj,c7⟩:=f.addr;have bk:ce<65536:=GF
 have ae: ∀v∈g.sp.mem.row (i / 8) n.toNat,aO v:=λv hv=>by
  unfold Mem.row at hv;obtain⟨cf,_,rfl⟩:=EZ.1 hv;exact(T.ok.mem.seg _).words _
 refine⟨λcf u=>(0<=cf/\cf<=n)/\Tc u d {g with sp:={l with mem:=l.mem.sets ce ((g.sp.mem.row (i / 8) n.toNat).take cf.toNat)}} a b/\Fr (Bm d) H u,λcf _=>(n-cf).toNat,⟨GF,?_,x⟩,?_⟩
 ·rw[show(0:Int).toNat=0 from rfl,List.take_zero];exact T.step x (λcf S=>kQ S) h8 M
 rintro cf H9 ⟨S,y,f9⟩;by_cases a8:cf<n
 ·rw[ka a8];obtain⟨F,G,I,N⟩:=y.s1;refine⟨_,F,_,rfl,_,G,_,rfl,_,I,_,rfl,_,N,?_⟩;rw[n5 (n:=i / 8+cf) GF];refine gc (je y.hp.cd.sp.mem y.ok.mem GF) ?_;rintro _ bb ⟨rfl,rfl⟩;have L:g.sp.mem.used (i / 8+cf):=by have:=hu cf.toNat GF;rw[show((cf.toNat:Nat):Int)=cf by omega]at this;exact this
  have sm:=bQ.sets ((g.sp.mem.row (i / 8) n.toNat).take cf.toNat) l.mem ce
  have ac:l.mem.used (i / 8+cf):=by
   obtain⟨k1,o,k3⟩:=L;by_cases c:((i / 8+cf) / 64).toNat=(ce / 64).toNat
   ·have ht:(g.sp.mem.seg (ce / 64).toNat).taken≠0:=by rw[<-c];exact o.2.2
    obtain⟨o1,o2,o3,o4,o5,o6⟩:=f.old ht;rw[c,o3]at k3;exact⟨k1,⟨o.1,by rw[f.limit];exact o.2.1,by rw[c,o6];exact ht⟩,by rw[c,f.new.2.2.2];omega⟩
   ·have q:=f.others _ c;exact⟨k1,⟨o.1,by rw[f.limit];exact o.2.1,by rw[q];exact o.2.2⟩,by rw[q];exact k3⟩
  have D:(((g.sp.mem.row (i / 8) n.toNat).take cf.toNat).length:Int)=cf:=by rw[E6,Mem.row_len];omega
  have av:(l.mem.sets ce ((g.sp.mem.row (i / 8) n.toNat).take cf.toNat)).get (i / 8+cf)=g.sp.mem.get (i / 8+cf):=by
   rw[Mem.sets_get _ _ GF bi (λj c=>?_),kb (by rw[D];have:=f.not_in L;omega),f.get L];have c:(j:Int)<cf:=GF;have O:(ce+j) / 64=ce / 64:=GF;have e2:(ce+j) % 64=ce % 64+j:=GF;exact⟨GF,by rw[O];exact⟨GF,by rw[f.limit];exact bj,f.new.1⟩,by rw[O,e2,f.new.2.2.2];omega⟩
  rw[ka (sm.used.2 ac),av];refine⟨_,_,rfl,_,F,_,rfl,_,G,_,rfl,_,I,_,rfl,_,N,?_⟩;rw[n5 (n:=ce+cf) GF,n5 (n:=cf+1) GF];refine gc (kg y.hp.cd.sp.mem y.ok.mem GF) ?_;rintro _ V ⟨rfl,a9,a3⟩;have a4:Fr (Bm d) H V:=f9.trans (a3.mono (λj c _=>by simp at c;simp[Bm];omega))
  have et:(g.sp.mem.row (i / 8) n.toNat).take (cf+1).toNat=(g.sp.mem.row (i / 8) n.toNat).take cf.toNat++[g.sp.mem.get (i / 8+cf)]:=by
   rw[show(cf+1).toNat=cf.toNat+1 by omega,Mem.row_take _ _ GF,show((cf.toNat:Nat):Int)=cf by omega]
  have es:l.mem.sets ce ((g.sp.mem.row (i / 8) n.toNat).take (cf+1).toNat)=(if(l.mem.sets ce ((g.sp.mem.row (i / 8) n.toNat).take cf.toNat)).used (ce+cf)then(l.mem.sets ce ((g.sp.mem.row (i / 8) n.toNat).take cf.toNat)).set (ce+cf) (g.sp.mem.get (i / 8+cf))else l.mem.sets ce ((g.sp.mem.row (i / 8) n.toNat).take cf.toNat)):=by
   rw[et,Mem.sets_snoc,D]
  have ay:eG V d.m d.s (l.mem.sets ce ((g.sp.mem.row (i / 8) n.toNat).take (cf+1).toNat)):=by rw[es];exact a9
  refine⟨_,rfl,⟨GF,?_,a4⟩,by show(n-(cf+1)).toNat< (n-cf).toNat;omega⟩;exact y.withMem (m:=l.mem.sets ce ((g.sp.mem.row (i / 8) n.toNat).take (cf+1).toNat)) a3 (λj c=>by simp at c;omega) ay (M.sets ce (λv hv=>ae v (FR hv)))
 ·rw[kb a8];have aw:cf.toNat=n.toNat:=GF;rw[aw,ES (by rw[Mem.row_len];omega)]at y;refine gc (ni GF GF) ?_;rintro _ bc ⟨rfl,z⟩;rw[kb GG,ka GF];have w:=y.ext z;obtain⟨F,G,I,N⟩:=w.s1;refine⟨_,_,rfl,_,F,_,rfl,_,G,_,rfl,_,I,_,rfl,_,N,?_⟩;refine gc (kg w.hp.cd.sp.mem w.ok.mem GF) ?_;rintro _ ak ⟨rfl,E,a5⟩;refine⟨_,rfl,?_⟩;have aN:g.sp.mem.used (i / 8):=by have:=hu 0 GF;simpa using this
  have sm:=bQ.sets (g.sp.mem.row (i / 8) n.toNat) l.mem ce
  have aT:l.mem.used (i / 8):=by
   obtain⟨k1,o,k3⟩:=aN;by_cases c:(i / 8 / 64).toNat=(ce / 64).toNat
   ·have ht:(g.sp.mem.seg (ce / 64).toNat).taken≠0:=by rw[<-c];exact o.2.2
    obtain⟨o1,o2,o3,o4,o5,o6⟩:=f.old ht;rw[c,o3]at k3;exact⟨k1,⟨o.1,by rw[f.limit];exact o.2.1,by rw[c,o6];exact ht⟩,by rw[c,f.new.2.2.2];omega⟩
   ·have q:=f.others _ c;exact⟨k1,⟨o.1,by rw[f.limit];exact o.2.1,by rw[q];exact o.2.2⟩,by rw[q];exact k3⟩
  rw[ka (sm.used.2 aT)]at E;have a6:Fr (Bm d) H ak:=(f9.trans z.fr).trans (a5.mono (λj c _=>by simp at c;simp[Bm];omega));have ah:=M.sets ce ae;have b0:SpOK {l with mem:=(l.mem.sets ce (g.sp.mem.row (i / 8) n.toNat)).set (i / 8) (ce*8+6)}:=ah.withMem (ah.mem.set (i / 8) ⟨GF,GF⟩) (λk h=>Mem.set_has.2 h) (λk=>⟨((bQ.set _ _ _).seg k).1,((bQ.set _ _ _).seg k).2.1⟩);have al:=w.withMem a5 (λj c=>by simp at c;omega) E b0;refine gc (gk U) ?_;rintro _ bd ⟨rfl,Z⟩;refine⟨_,rfl,?_⟩;refine gc (ni GF GF) ?_;rintro _ be ⟨rfl,a1⟩;rw[kb (λhh=>hh p.1.1),ka GF];have a2:=Z.trans a1;exact⟨_,_,rfl,A _ _ ⟨rfl,al.ext a2,a6.trans a2.fr⟩⟩
