/-
 slices.SortFunc at []int, said of heaps: its contract is the library's; what it asks is laid at this program. Proves nothing of any one statement.
-/
import Derived.Test.YtihdffpekpnglaaGreatText
import Derived.Shelf.SlSortCmp.NoneTotal
set_option linter.unusedVariables false
set_option linter.unusedSimpArgs false
namespace Go.Proofs.YtihdffpekpnglaaGreat
open Go
open Go Go.Shelf Go.RowKit Go.Lib Go.Sort Go.Proofs

def lz:Go.Shelf.Ren:=⟨λ| 6=>61 | 15=>106 | 14=>105 | 28=>145 | 29=>146 | 20=>137 | 21=>138 | 22=>139 | 23=>140 | 24=>141 | 25=>142 | 26=>143 | 27=>144 | 46=>158 | 47=>159 | 48=>160 | 49=>161 | 50=>162 | 57=>163 | n=>n,λ| 22=>49 | 24=>3 | 25=>130 | 3=>3 | 39=>178 | 0=>0 | 53=>154 | 55=>32 | 4=>4 | 46=>204 | 45=>203 | 50=>166 | 5=>5 | 9=>9 | 66=>219 | 70=>222 | 76=>225 | 77=>226 | n=>n,λ| n=>n⟩
theorem px:Go.Proofs.SlLaysF.n6 Tryz.prog lz:={
 mixed:=by kernel_rfl
 f6:=⟨Tryz.f61.name,by decide,Tryz.func61.trans (congrArg some (by kernel_rfl))⟩
 f14:=⟨Tryz.f105.name,by decide,Tryz.func105.trans (congrArg some (by kernel_rfl))⟩
 f15:=Tryz.func106.trans (congrArg some (by kernel_rfl))
 f20:=⟨Tryz.f137.name,by decide,Tryz.func137.trans (congrArg some (by kernel_rfl))⟩
 f21:=⟨Tryz.f138.name,by decide,Tryz.func138.trans (congrArg some (by kernel_rfl))⟩
 f22:=⟨Tryz.f139.name,by decide,Tryz.func139.trans (congrArg some (by kernel_rfl))⟩
 f23:=⟨Tryz.f140.name,by decide,Tryz.func140.trans (congrArg some (by kernel_rfl))⟩
 f24:=⟨Tryz.f141.name,by decide,Tryz.func141.trans (congrArg some (by kernel_rfl))⟩
 f25:=⟨Tryz.f142.name,by decide,Tryz.func142.trans (congrArg some (by kernel_rfl))⟩
 f26:=⟨Tryz.f143.name,by decide,Tryz.func143.trans (congrArg some (by kernel_rfl))⟩
 f27:=⟨Tryz.f144.name,by decide,Tryz.func144.trans (congrArg some (by kernel_rfl))⟩
 f28:=Tryz.func145.trans (congrArg some (by kernel_rfl))
 f29:=Tryz.func146.trans (congrArg some (by kernel_rfl))
 f46:=⟨Tryz.f158.name,by decide,Tryz.func158.trans (congrArg some (by kernel_rfl))⟩
 f47:=Tryz.func159.trans (congrArg some (by kernel_rfl))
 f48:=Tryz.func160.trans (congrArg some (by kernel_rfl))
 f49:=⟨Tryz.f161.name,by decide,Tryz.func161.trans (congrArg some (by kernel_rfl))⟩
 f50:=⟨Tryz.f162.name,by decide,Tryz.func162.trans (congrArg some (by kernel_rfl))⟩
 f57:=⟨Tryz.f163.name,by decide,Tryz.func163.trans (congrArg some (by kernel_rfl))⟩
 t0:=Tryz.underlying0
 a0:=Tryz.isAgg0
 z0:=Tryz.sizeOf0
 v0:=Tryz.zeroValue0
 t3:=Tryz.underlying3
 a3:=Tryz.isAgg3
 z3:=Tryz.sizeOf3
 v3:=Tryz.zeroValue3
 t4:=Tryz.underlying4
 a4:=Tryz.isAgg4
 z4:=Tryz.sizeOf4
 v4:=Tryz.zeroValue4
 t5:=Tryz.underlying5
 a5:=Tryz.isAgg5
 z5:=Tryz.sizeOf5
 v5:=Tryz.zeroValue5
 t9:=Tryz.underlying9
 a9:=Tryz.isAgg9
 z9:=Tryz.sizeOf9
 v9:=Tryz.zeroValue9
 t22:=Tryz.underlying49
 a22:=Tryz.isAgg49
 z22:=Tryz.sizeOf49
 v22:=Tryz.zeroValue49
 a24:=Tryz.isAgg3
 z24:=Tryz.sizeOf3
 t25:=Tryz.underlying130
 a25:=Tryz.isAgg130
 z25:=Tryz.sizeOf130
 v25:=Tryz.zeroValue130
 t39:=Tryz.underlying178
 a39:=Tryz.isAgg178
 z39:=Tryz.sizeOf178
 v39:=Tryz.zeroValue178
 t45:=Tryz.underlying203
 a45:=Tryz.isAgg203
 z45:=Tryz.sizeOf203
 v45:=Tryz.zeroValue203
 t46:=Tryz.underlying204
 a46:=Tryz.isAgg204
 z46:=Tryz.sizeOf204
 v46:=Tryz.zeroValue204
 t50:=Tryz.underlying166
 a50:=Tryz.isAgg166
 z50:=Tryz.sizeOf166
 v50:=Tryz.zeroValue166
 t53:=Tryz.underlying154
 a53:=Tryz.isAgg154
 z53:=Tryz.sizeOf154
 v53:=Tryz.zeroValue154
 t55:=Tryz.underlying32
 a55:=Tryz.isAgg32
 z55:=Tryz.sizeOf32
 v55:=Tryz.zeroValue32
 t66:=Tryz.underlying219
 a66:=Tryz.isAgg219
 z66:=Tryz.sizeOf219
 v66:=Tryz.zeroValue219
 t70:=Tryz.underlying222
 a70:=Tryz.isAgg222
 z70:=Tryz.sizeOf222
 v70:=Tryz.zeroValue222
 t76:=Tryz.underlying225
 a76:=Tryz.isAgg225
 z76:=Tryz.sizeOf225
 v76:=Tryz.zeroValue225
 t77:=Tryz.underlying226
 a77:=Tryz.isAgg226
 z77:=Tryz.sizeOf226
 v77:=Tryz.zeroValue226}


theorem pz{H:zW}{p:zY}{c:Nat}{fv:Value}:HC Tryz.prog 61 #[.slice p 0 c,fv] H (λv H'=>v=.tuple #[]/\H'=H):=λw hw=>by
 have h:=AnyF.slices_SortFunc_none (P:=Tryz.prog) (ρ:=lz) {px with} p c fv w
 exact h.mono λe w' ⟨he,hw'⟩=>⟨_,he,by subst hw';exact Same.refl _,rfl,by rw[hw'];exact hw⟩

theorem qr{w w':World}(s:Same w w')(e:Ext w.heap w'.heap): ∃q os',w'=grow (w.drewN q) os':=by
 refine⟨w'.drawn-w.drawn,w'.heap.extract w.heap.size w'.heap.size,?_⟩
 obtain⟨h1,h2,h3,h4⟩:=s
 cases w with
 | mk heap tape drawn os output=>
 cases w' with
 | mk heap' tape' drawn' os' output'=>
 simp only at h1 h2 h3 h4 e
 subst h1 h2 h3
 have hd:drawn+(drawn'-drawn)=drawn':=by omega
 have hh:heap++heap'.extract heap.size heap'.size=heap':=by
  refine Array.ext_getElem? λi=>?_
  have hs:=e.size
  rcases Nat.lt_or_ge i heap.size with h | h
  ·rw[Array.getElem?_append_left h,e.old i h]
  ·rw[Array.getElem?_append_right h,Array.getElem?_extract]
   split
   ·congr 1;omega
   ·rw[Array.getElem?_eq_none (by omega)]
 simp only[grow,World.drewN,hd,hh]

variable {k:Nat}
def encF(i:Fin (k+1)):Value:=.int .i64 (i.val:Int)
theorem mg{H:zW}{b i:Nat}{f:Obj->Obj}:(H.modify b f)[i]?=if b=i then H[i]?.map f else H[i]?:=by
 rw[Array.getElem?_modify]
theorem ti{H:zW}{T:TypeId}{b n c g:Nat}{cb:Array Value}{xs:List (Fin (k+1))}{tk:Fin (k+1)->Int}(how:Own H T 1 (some ⟨b,0,none⟩) n c (xs.map encF))(hn:n<4611686018427387904)
  (eg: ∀args w,(callFunc g args).run Tryz.prog w=.ok (.enter g args) w)
  (hcl: ∀H',Fr [b] H H'-> ∀x y:Fin (k+1),HC Tryz.prog g (#[encF x,encF y]++cb) H' (λv H''=>v=.int .i64 (Lib.compareInt (tk x) (tk y))/\Ext H' H'')):
  HC Tryz.prog 61 #[.slice (some ⟨b,0,none⟩) n c,.func (.func g) #[] cb] H (λv H'=>v=.tuple #[]/\ ∃ys:List (Fin (k+1)),ys.Perm xs/\ys.Pairwise (λx y=>tk x<=tk y)/\Own H' T 1 (some ⟨b,0,none⟩) n c (ys.map encF)/\Fr [b] H H'):=λw hw=>by
 subst hw
 have hlen:=how.len
 simp only[List.length_map,Nat.mul_one]at hlen
 obtain⟨_,cs,hb,hcs,hnc,hl,hc⟩:=how
 have hblt:=bI hb
 have hcell: ∀(d:Array (Fin (k+1))),d.size=n-> ∀m os,(sortWorld encF w b 0 m d os).heap=(w.heap.modify b (onCells (putCells encF 0 d)))++os:=λd hd m os=>rfl
 have hget: ∀(d:Array (Fin (k+1))) (os:zW),((w.heap.modify b (onCells (putCells encF 0 d)))++os)[b]?=some (.cells (putCells encF 0 d cs) T (0,0)):=λd os=>by
  rw[Array.getElem?_append_left (by simpa using hblt),mg,if_pos rfl,hb];rfl
 have hfr: ∀(d:Array (Fin (k+1))) (os:zW),Fr [b] w.heap ((w.heap.modify b (onCells (putCells encF 0 d)))++os):=λd os=>by
  refine⟨by simp,λi hi hn=>?_⟩
  rw[Array.getElem?_append_left (by simpa using hi),mg,if_neg (by simp at hn;omega)]
 have hO:SWO (ltOf λx y:Fin (k+1)=>Lib.compareInt (tk x) (tk y)):=by
  have e: ∀x y,ltOf (λx y:Fin (k+1)=>Lib.compareInt (tk x) (tk y)) x y=decide (tk x<tk y):=λx y=>by
   unfold ltOf Lib.compareInt
   by_cases h1:tk x<tk y
   ·simp[h1]
   ·by_cases h2:tk y<tk x<;>simp[h1,h2]
  exact⟨λx=>by rw[e];simp,λx y z h1 h2=>by rw[e]at*;simp at*;omega,λx y z h1 h2=>by rw[e]at*;simp at*;omega⟩
 have hH:Holds encF w b 0 xs.toArray:=λj hj=>by
  have hj':j<xs.length:=by simpa using hj
  have h1:=hc j (by omega)
  rw[List.getElem?_map,List.getElem?_eq_getElem hj']at h1
  refine⟨?_,?_⟩
  ·unfold World.cell?
   simp only[hb]
   simp only[Option.isSome_none,Bool.false_eq_true,if_false,Nat.zero_add]
   rw[h1]
   simp[getElem!_pos xs.toArray j hj]
  ·unfold World.frozen?
   simp only[hb]
   simp
 have hcmp:CmpLays1 Tryz.prog g cb encF (λx y:Fin (k+1)=>Lib.compareInt (tk x) (tk y)) b 0 xs.toArray.size w:=λm os dk hdk x y=>by
  refine(hcl _ (by rw[hcell dk (by simpa using hdk.trans (by simpa using hlen))];exact hfr dk os) x y _ rfl).mono ?_
  rintro e w' ⟨v,rfl,hs,rfl,he⟩
  exact⟨rfl,qr hs he⟩
 have h:=Any.slices_SortFunc px encF (λ_=>rfl) (λx y:Fin (k+1)=>Lib.compareInt (tk x) (tk y)) hO g cb b 0 c xs.toArray w eg hcmp hH hblt (by simpa using(by omega:xs.length<4611686018427387904))
 rw[show xs.toArray.size=n by simpa using hlen]at h
 refine h.mono ?_
 rintro e w' ⟨rfl,d',m,os,hp,hs,rfl⟩
 have hd:d'.size=n:=by rw[hp.1];simpa using hlen
 refine⟨_,rfl,⟨rfl,rfl,rfl,Nat.le_add_right _ _⟩,rfl,d'.toList,?_,?_,?_,hfr d' os⟩
 ·have h1:=hp.2.2
  simp only[Array.extract_eq_self_of_le,hd,Nat.le_refl]at h1
  have e2:((xs.toArray).extract 0 n).toList=xs:=by rw[show n=xs.toArray.size by simp;omega];simp
  rw[e2]at h1
  exact h1
 ·rw[List.pairwise_iff_getElem]
  intro i j hi hj hij
  have h1:=hs i j (Nat.zero_le _) hij (by simpa using(by simpa[hd]using hj))
  unfold ltOf Lib.compareInt at h1
  rw[getElem!_pos d' i (by simpa using hi),getElem!_pos d' j (by simpa using hj)]at h1
  simp only[Array.getElem_toList]
  by_cases h2:tk d'[j]<tk d'[i]
  ·simp[h2]at h1
  ·omega
 ·refine⟨rfl,_,hget d' os,by simp[putCells,hcs],hnc,by simp[hd],λj hj=>?_⟩
  have hjc:j<cs.size:=by omega
  simp only[putCells,Array.getElem?_mapIdx,Array.getElem?_eq_getElem hjc,Option.map_some]
  rw[if_pos ⟨Nat.zero_le _,by omega⟩,Nat.sub_zero,getElem!_pos d' j (by omega)]
  simp[List.getElem?_eq_getElem (show j<d'.toList.length by simp;omega)]
