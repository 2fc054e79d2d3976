/-
 slices.SortFunc at []int, said of heaps: its contract is the library's; what it asks is laid at this program. Proves nothing of any one statement.
-/
import Derived.Test.YtmlhlkbpglcccaaGreatText
import Derived.Shelf.SlSortCmp.NoneTotal
set_option linter.unusedVariables false
set_option linter.unusedSimpArgs false
namespace Go.Proofs.YtmlhlkbpglcccaaGreat
open Go
open Go Go.Shelf Go.RowKit Go.Lib Go.Sort Go.Proofs

def iH:Go.Shelf.Ren:=⟨λ| 6=>77 | 15=>107 | 14=>106 | 28=>124 | 29=>125 | 20=>116 | 21=>117 | 22=>118 | 23=>119 | 24=>120 | 25=>121 | 26=>122 | 27=>123 | 46=>127 | 47=>128 | 48=>129 | 49=>130 | 50=>131 | 57=>132 | n=>n,λ| 22=>79 | 24=>3 | 25=>147 | 3=>3 | 39=>34 | 0=>0 | 53=>64 | 55=>22 | 4=>4 | 46=>180 | 45=>179 | 50=>109 | 5=>5 | 9=>9 | 66=>188 | 70=>192 | 76=>194 | 77=>195 | n=>n,λ| n=>n⟩
theorem lk:Go.Proofs.SlLaysF.n6 Tryz.prog iH:={
 mixed:=by kernel_rfl
 f6:=⟨Tryz.f77.name,by decide,Tryz.func77.trans (congrArg some (by kernel_rfl))⟩
 f14:=⟨Tryz.f106.name,by decide,Tryz.func106.trans (congrArg some (by kernel_rfl))⟩
 f15:=Tryz.func107.trans (congrArg some (by kernel_rfl))
 f20:=⟨Tryz.f116.name,by decide,Tryz.func116.trans (congrArg some (by kernel_rfl))⟩
 f21:=⟨Tryz.f117.name,by decide,Tryz.func117.trans (congrArg some (by kernel_rfl))⟩
 f22:=⟨Tryz.f118.name,by decide,Tryz.func118.trans (congrArg some (by kernel_rfl))⟩
 f23:=⟨Tryz.f119.name,by decide,Tryz.func119.trans (congrArg some (by kernel_rfl))⟩
 f24:=⟨Tryz.f120.name,by decide,Tryz.func120.trans (congrArg some (by kernel_rfl))⟩
 f25:=⟨Tryz.f121.name,by decide,Tryz.func121.trans (congrArg some (by kernel_rfl))⟩
 f26:=⟨Tryz.f122.name,by decide,Tryz.func122.trans (congrArg some (by kernel_rfl))⟩
 f27:=⟨Tryz.f123.name,by decide,Tryz.func123.trans (congrArg some (by kernel_rfl))⟩
 f28:=Tryz.func124.trans (congrArg some (by kernel_rfl))
 f29:=Tryz.func125.trans (congrArg some (by kernel_rfl))
 f46:=⟨Tryz.f127.name,by decide,Tryz.func127.trans (congrArg some (by kernel_rfl))⟩
 f47:=Tryz.func128.trans (congrArg some (by kernel_rfl))
 f48:=Tryz.func129.trans (congrArg some (by kernel_rfl))
 f49:=⟨Tryz.f130.name,by decide,Tryz.func130.trans (congrArg some (by kernel_rfl))⟩
 f50:=⟨Tryz.f131.name,by decide,Tryz.func131.trans (congrArg some (by kernel_rfl))⟩
 f57:=⟨Tryz.f132.name,by decide,Tryz.func132.trans (congrArg some (by kernel_rfl))⟩
 t0:=Tryz.underlying0
 a0:=Tryz.isAgg0
 z0:=Tryz.sizeOf0
 v0:=Tryz.zeroValue0
 t3:=Tryz.underlying3
 a3:=Tryz.isAgg3
 z3:=Tryz.sizeOf3
 v3:=Tryz.zeroValue3
 t4:=Tryz.underlying4
 a4:=Tryz.isAgg4
 z4:=Tryz.sizeOf4
 v4:=Tryz.zeroValue4
 t5:=Tryz.underlying5
 a5:=Tryz.isAgg5
 z5:=Tryz.sizeOf5
 v5:=Tryz.zeroValue5
 t9:=Tryz.underlying9
 a9:=Tryz.isAgg9
 z9:=Tryz.sizeOf9
 v9:=Tryz.zeroValue9
 t22:=Tryz.underlying79
 a22:=Tryz.isAgg79
 z22:=Tryz.sizeOf79
 v22:=Tryz.zeroValue79
 a24:=Tryz.isAgg3
 z24:=Tryz.sizeOf3
 t25:=Tryz.underlying147
 a25:=Tryz.isAgg147
 z25:=Tryz.sizeOf147
 v25:=Tryz.zeroValue147
 t39:=Tryz.underlying34
 a39:=Tryz.isAgg34
 z39:=Tryz.sizeOf34
 v39:=Tryz.zeroValue34
 t45:=Tryz.underlying179
 a45:=Tryz.isAgg179
 z45:=Tryz.sizeOf179
 v45:=Tryz.zeroValue179
 t46:=Tryz.underlying180
 a46:=Tryz.isAgg180
 z46:=Tryz.sizeOf180
 v46:=Tryz.zeroValue180
 t50:=Tryz.underlying109
 a50:=Tryz.isAgg109
 z50:=Tryz.sizeOf109
 v50:=Tryz.zeroValue109
 t53:=Tryz.underlying64
 a53:=Tryz.isAgg64
 z53:=Tryz.sizeOf64
 v53:=Tryz.zeroValue64
 t55:=Tryz.underlying22
 a55:=Tryz.isAgg22
 z55:=Tryz.sizeOf22
 v55:=Tryz.zeroValue22
 t66:=Tryz.underlying188
 a66:=Tryz.isAgg188
 z66:=Tryz.sizeOf188
 v66:=Tryz.zeroValue188
 t70:=Tryz.underlying192
 a70:=Tryz.isAgg192
 z70:=Tryz.sizeOf192
 v70:=Tryz.zeroValue192
 t76:=Tryz.underlying194
 a76:=Tryz.isAgg194
 z76:=Tryz.sizeOf194
 v76:=Tryz.zeroValue194
 t77:=Tryz.underlying195
 a77:=Tryz.isAgg195
 z77:=Tryz.sizeOf195
 v77:=Tryz.zeroValue195}


theorem lm{H:zV}{p:zW}{c:Nat}{fv:Value}:HC Tryz.prog 77 #[.slice p 0 c,fv] H (λv H'=>v=.tuple #[]/\H'=H):=λw hw=>by
 have h:=AnyF.slices_SortFunc_none (P:=Tryz.prog) (ρ:=iH) {lk with} p c fv w
 exact h.mono λe w' ⟨he,hw'⟩=>⟨_,he,by subst hw';exact Same.refl _,rfl,by rw[hw'];exact hw⟩

theorem l7{w w':World}(s:Same w w')(e:Ext w.heap w'.heap): ∃q os',w'=grow (w.drewN q) os':=by
 refine⟨w'.drawn-w.drawn,w'.heap.extract w.heap.size w'.heap.size,?_⟩
 obtain⟨h1,h2,h3,h4⟩:=s
 cases w with
 | mk heap tape drawn os output=>
 cases w' with
 | mk heap' tape' drawn' os' output'=>
 simp only at h1 h2 h3 h4 e
 subst h1 h2 h3
 have hd:drawn+(drawn'-drawn)=drawn':=by omega
 have hh:heap++heap'.extract heap.size heap'.size=heap':=by
  refine Array.ext_getElem? λi=>?_
  have hs:=e.size
  rcases Nat.lt_or_ge i heap.size with h | h
  ·rw[Array.getElem?_append_left h,e.old i h]
  ·rw[Array.getElem?_append_right h,Array.getElem?_extract]
   split
   ·congr 1;omega
   ·rw[Array.getElem?_eq_none (by omega)]
 simp only[grow,World.drewN,hd,hh]

variable {k:Nat}
def encF(i:Fin (k+1)):Value:=.int .i64 (i.val:Int)
theorem jc{H:zV}{b i:Nat}{f:Obj->Obj}:(H.modify b f)[i]?=if b=i then H[i]?.map f else H[i]?:=by
 rw[Array.getElem?_modify]
theorem oU{H:zV}{T:TypeId}{b n c g:Nat}{cb:Array Value}{xs:List (Fin (k+1))}{tk:Fin (k+1)->Int}(how:Own H T 1 (some ⟨b,0,none⟩) n c (xs.map encF))(hn:n<4611686018427387904)
  (eg: ∀args w,(callFunc g args).run Tryz.prog w=.ok (.enter g args) w)
  (hcl: ∀H',Fr [b] H H'-> ∀x y:Fin (k+1),HC Tryz.prog g (#[encF x,encF y]++cb) H' (λv H''=>v=.int .i64 (Lib.compareInt (tk x) (tk y))/\Ext H' H'')):
  HC Tryz.prog 77 #[.slice (some ⟨b,0,none⟩) n c,.func (.func g) #[] cb] H (λv H'=>v=.tuple #[]/\ ∃ys:List (Fin (k+1)),ys.Perm xs/\ys.Pairwise (λx y=>tk x<=tk y)/\Own H' T 1 (some ⟨b,0,none⟩) n c (ys.map encF)/\Fr [b] H H'):=λw hw=>by
 subst hw
 have hlen:=how.len
 simp only[List.length_map,Nat.mul_one]at hlen
 obtain⟨_,cs,hb,hcs,hnc,hl,hc⟩:=how
 have hblt:=bH hb
 have hcell: ∀(d:Array (Fin (k+1))),d.size=n-> ∀m os,(sortWorld encF w b 0 m d os).heap=(w.heap.modify b (onCells (putCells encF 0 d)))++os:=λd hd m os=>rfl
 have hget: ∀(d:Array (Fin (k+1))) (os:zV),((w.heap.modify b (onCells (putCells encF 0 d)))++os)[b]?=some (.cells (putCells encF 0 d cs) T (0,0)):=λd os=>by
  rw[Array.getElem?_append_left (by simpa using hblt),jc,if_pos rfl,hb];rfl
 have hfr: ∀(d:Array (Fin (k+1))) (os:zV),Fr [b] w.heap ((w.heap.modify b (onCells (putCells encF 0 d)))++os):=λd os=>by
  refine⟨by simp,λi hi hn=>?_⟩
  rw[Array.getElem?_append_left (by simpa using hi),jc,if_neg (by simp at hn;omega)]
 have hO:SWO (ltOf λx y:Fin (k+1)=>Lib.compareInt (tk x) (tk y)):=by
  have e: ∀x y,ltOf (λx y:Fin (k+1)=>Lib.compareInt (tk x) (tk y)) x y=decide (tk x<tk y):=λx y=>by
   unfold ltOf Lib.compareInt
   by_cases h1:tk x<tk y
   ·simp[h1]
   ·by_cases h2:tk y<tk x<;>simp[h1,h2]
  exact⟨λx=>by rw[e];simp,λx y z h1 h2=>by rw[e]at*;simp at*;omega,λx y z h1 h2=>by rw[e]at*;simp at*;omega⟩
 have hH:Holds encF w b 0 xs.toArray:=λj hj=>by
  have hj':j<xs.length:=by simpa using hj
  have h1:=hc j (by omega)
  rw[List.getElem?_map,List.getElem?_eq_getElem hj']at h1
  refine⟨?_,?_⟩
  ·unfold World.cell?
   simp only[hb]
   simp only[Option.isSome_none,Bool.false_eq_true,if_false,Nat.zero_add]
   rw[h1]
   simp[getElem!_pos xs.toArray j hj]
  ·unfold World.frozen?
   simp only[hb]
   simp
 have hcmp:CmpLays1 Tryz.prog g cb encF (λx y:Fin (k+1)=>Lib.compareInt (tk x) (tk y)) b 0 xs.toArray.size w:=λm os dk hdk x y=>by
  refine(hcl _ (by rw[hcell dk (by simpa using hdk.trans (by simpa using hlen))];exact hfr dk os) x y _ rfl).mono ?_
  rintro e w' ⟨v,rfl,hs,rfl,he⟩
  exact⟨rfl,l7 hs he⟩
 have h:=Any.slices_SortFunc lk encF (λ_=>rfl) (λx y:Fin (k+1)=>Lib.compareInt (tk x) (tk y)) hO g cb b 0 c xs.toArray w eg hcmp hH hblt (by simpa using(by omega:xs.length<4611686018427387904))
 rw[show xs.toArray.size=n by simpa using hlen]at h
 refine h.mono ?_
 rintro e w' ⟨rfl,d',m,os,hp,hs,rfl⟩
 have hd:d'.size=n:=by rw[hp.1];simpa using hlen
 refine⟨_,rfl,⟨rfl,rfl,rfl,Nat.le_add_right _ _⟩,rfl,d'.toList,?_,?_,?_,hfr d' os⟩
 ·have h1:=hp.2.2
  simp only[Array.extract_eq_self_of_le,hd,Nat.le_refl]at h1
  have e2:((xs.toArray).extract 0 n).toList=xs:=by rw[show n=xs.toArray.size by simp;omega];simp
  rw[e2]at h1
  exact h1
 ·rw[List.pairwise_iff_getElem]
  intro i j hi hj hij
  have h1:=hs i j (Nat.zero_le _) hij (by simpa using(by simpa[hd]using hj))
  unfold ltOf Lib.compareInt at h1
  rw[getElem!_pos d' i (by simpa using hi),getElem!_pos d' j (by simpa using hj)]at h1
  simp only[Array.getElem_toList]
  by_cases h2:tk d'[j]<tk d'[i]
  ·simp[h2]at h1
  ·omega
 ·refine⟨rfl,_,hget d' os,by simp[putCells,hcs],hnc,by simp[hd],λj hj=>?_⟩
  have hjc:j<cs.size:=by omega
  simp only[putCells,Array.getElem?_mapIdx,Array.getElem?_eq_getElem hjc,Option.map_some]
  rw[if_pos ⟨Nat.zero_le _,by omega⟩,Nat.sub_zero,getElem!_pos d' j (by omega)]
  simp[List.getElem?_eq_getElem (show j<d'.toList.length by simp;omega)]
