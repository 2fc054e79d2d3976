/-
 How many words are used of a memory of which something holds. Proves nothing of any one statement.
-/
import Derived.Test.YtgnokbjknicahaaGreatGcB
set_option linter.unusedVariables false
set_option linter.unusedSimpArgs false
namespace Go.Proofs.YtgnokbjknicahaaGreat
open Go

@[irreducible] def tops:Nat:=65536
theorem tops_eq:tops=65536:=by unfold tops;rfl
def Mem.cnt(m:Mem)(p:Int->Bool):Nat:=(List.range tops).countP λx:Nat=>decide (m.used x) && p x
theorem Mem.words_to(m:Mem)(ok:MemOK m)(gs:List Int): ∀k,k<=m.limit->m.sumN (m.takenTo gs k)=((List.range (64*k)).countP λx:Nat=>decide (m.used x) && decide (gs=[]\/m.gAt x∈gs):Nat)
 | 0,_=>rfl
 | k+1,h=>by
  have hn:=(ok.seg k).n
  have htk:=(ok.seg k).taken
  rw[Mem.takenTo_succ,sumN_append,Mem.words_to m ok gs k (by omega),show 64*(k+1)=64*k+64 by omega,List.range_add,List.countP_append,List.countP_map]
  have e: ∀i:Nat,i<64->((decide (m.used ((64*k+i:Nat):Int)) && decide (gs=[]\/m.gAt ((64*k+i:Nat):Int)∈gs))=(decide (0< (m.seg k).taken/\(gs=[]\/(m.seg k).gen∈gs)) && inR 0 (m.seg k).n.toNat i)):=λi hi=>by
   have e1:(((64*k+i:Nat):Int) / 64).toNat=k:=by omega
   have e2:((64*k+i:Nat):Int) % 64=i:=by omega
   have eg:m.gAt ((64*k+i:Nat):Int)=(m.seg k).gen:=by unfold Mem.gAt;rw[e1]
   have eu:m.used ((64*k+i:Nat):Int) ↔ 0< (m.seg k).taken/\(i:Int)< (m.seg k).n:=by
    unfold Mem.used Mem.has
    rw[e1,e2]
    exact⟨λq=>⟨by omega,by omega⟩,λq=>⟨by omega,⟨by omega,by omega,by omega⟩,by omega⟩⟩
   rw[Bool.eq_iff_iff]
   unfold inR
   simp only[Bool.and_eq_true,decide_eq_true_eq]
   rw[eu,eg]
   exact⟨λq=>⟨⟨q.1.1,q.2⟩,by omega,by omega⟩,λq=>⟨⟨q.1.1,by omega⟩,q.1.2⟩⟩
  have e3:(List.range 64).countP ((λx:Nat=>decide (m.used x) && decide (gs=[]\/m.gAt x∈gs)) ∘ λx=>64*k+x)=if 0< (m.seg k).taken/\(gs=[]\/(m.seg k).gen∈gs)then(m.seg k).n.toNat else 0:=by
   rw[List.countP_congr (q:=λi=>decide (0< (m.seg k).taken/\(gs=[]\/(m.seg k).gen∈gs)) && inR 0 (m.seg k).n.toNat i) (λi hi=>by
    rw[List.mem_range]at hi
    show((decide (m.used ((64*k+i:Nat):Int)) && decide (gs=[]\/m.gAt ((64*k+i:Nat):Int)∈gs))=true) ↔ _
    rw[e i hi])]
   by_cases h1:0< (m.seg k).taken/\(gs=[]\/(m.seg k).gen∈gs)
   ·rw[if_pos h1]
    simp only[zX h1,Bool.true_and]
    exact countP_inR (by omega) 64 _ (by omega)
   ·rw[if_neg h1]
    simp only[zQ h1,Bool.false_and]
    exact List.countP_eq_zero.2 (λ_ _=>by simp)
  rw[e3]
  by_cases h1:0< (m.seg k).taken/\(gs=[]\/(m.seg k).gen∈gs)
  ·rw[if_pos h1,if_pos h1]
   simp[Mem.sumN];omega
  ·rw[if_neg h1,if_neg h1]
   simp[Mem.sumN]
theorem Mem.words_cnt{m:Mem}(ok:MemOK m)(gs:List Int):m.words gs=(m.cnt λx=>decide (gs=[]\/m.gAt x∈gs):Nat):=by
 unfold Mem.words Mem.cnt
 have hl:=ok.lim
 rw[Mem.words_to m ok gs _ (Nat.le_refl _)]
 congr 1
 have ht:=tops_eq
 rw[show tops=64*m.limit+(tops-64*m.limit)by omega]
 refine(countP_past _ _ _ (λi h1 h2=>?_)).symm
 rw[Bool.and_eq_false_iff]
 left
 refine zQ λq=>?_
 have:=q.2.1.2.1
 omega
theorem Mem.cnt_congr{m m':Mem}{p q:Int->Bool}(h: ∀x:Int,(m.used x/\p x=true) ↔ (m'.used x/\q x=true)):m.cnt p=m'.cnt q:=by
 unfold Mem.cnt
 refine List.countP_congr λx _=>?_
 have:=h x
 simp only[Bool.and_eq_true,decide_eq_true_eq]
 exact this
theorem Mem.cnt_split{m:Mem}{p q r:Int->Bool}(h: ∀x,m.used x->r x=(p x || q x))(hd: ∀x,m.used x->p x=true->q x=true->False):m.cnt r=m.cnt p+m.cnt q:=by
 unfold Mem.cnt
 rw[<-countP_two]
 ·refine List.countP_congr λx _=>?_
  by_cases hu:m.used x
  ·simp[hu,h x hu]
  ·simp[hu]
 ·intro x _ h1 h2
  simp only[Bool.and_eq_true,decide_eq_true_eq]at h1 h2
  exact hd x h1.1 h1.2 h2.2
def Mem.above(m:Mem)(g:Int):Nat:=m.cnt λx=>decide (g<m.gAt x)
theorem Mem.above_4{m:Mem}(ok:MemOK m){g:Int}(h:4<=g):m.above g=0:=by
 unfold Mem.above Mem.cnt
 rw[List.countP_eq_zero]
 intro x _
 have:=(ok.seg ((x:Int) / 64).toNat).gen
 simp only[Bool.and_eq_true,decide_eq_true_eq]
 intro q
 have:(m.seg ((x:Int) / 64).toNat).gen<=4:=this.2
 have:g< (m.seg ((x:Int) / 64).toNat).gen:=q.2
 omega
theorem Mem.above_step{m:Mem}(ok:MemOK m)(g:Int):(m.above (g-1):Int)=m.words [g]+m.above g:=by
 rw[Mem.words_cnt ok]
 unfold Mem.above
 rw[Mem.cnt_split (p:=λx=>decide ([g]=[]\/m.gAt x∈[g])) (q:=λx=>decide (g<m.gAt x)) (r:=λx=>decide (g-1<m.gAt x)) (λx _=>?_) (λx _ h1 h2=>?_)]
 ·rw[Int.natCast_add]
 ·simp only[List.mem_singleton,List.cons_ne_self,false_or,reduceCtorEq]
  by_cases h:m.gAt x=g
  ·rw[h];simp;omega
  ·simp only[h,decide_false,Bool.false_or]
   exact decide_eq_decide.2 ⟨λq=>by generalize m.gAt x=y at*;omega,λq=>by generalize m.gAt x=y at*;omega⟩
 ·simp at h1 h2
  generalize m.gAt x=y at*
  omega
theorem sizeOf_rng(m:Mem)(w:Int):0<=m.sizeOf w/\m.sizeOf w<=63:=by
 have:=m.len_rng w
 unfold Mem.sizeOf
 split
 ·omega
 ·split<;>omega
theorem sum_sizes(m:Mem)(l:List Int):0<=(l.map m.sizeOf).sum/\(l.map m.sizeOf).sum<=63*l.length:=by
 induction l with
 | nil=>simp
 | cons a l ih=>
  have:=sizeOf_rng m a
  simp only[List.map_cons,List.sum_cons,List.length_cons]
  omega
theorem iand_one{k:Int}(h:0<=k/\k<64):iand .i64 k 1=k % 2:=by
 have: ∀n:Fin 64,iand .i64 (n.val:Int) 1=(n.val:Int) % 2:=by decide
 have h2:=this ⟨k.toNat,by omega⟩
 simp only at h2
 rwa [show((k.toNat:Nat):Int)=k by omega]at h2

theorem seg_Read_w{H:zV}{bm bs:Nat}{m:Mem}{a:Int}(h:MemAt H bm bs m)(ok:MemOK m)(ha:a<=9223372036854775807):
  seg_Mem_Read.C (some ⟨bm,0,none⟩) a H (λv H'=>v=.tuple #[.int .u64 (m.read a),.int .i64 (if m.used a then 0 else 18)]/\H'=H):=
 HC.mono (seg_Read_c h ok ha) (by
  rintro _ _ ⟨rfl,rfl⟩
  refine⟨?_,rfl⟩
  unfold Mem.read
  split<;>rfl)
theorem IsTaken.all{m:Mem}{l:List Nat}(h:IsTaken m [] l)(ok:MemOK m){k:Int}(hk:m.has k):k.toNat∈l:=by
 refine h.perm.mem_iff.2 ?_
 unfold Mem.takenTo
 rw[List.mem_filter,List.mem_range]
 obtain⟨h1,h2,h3⟩:=hk
 have:=(ok.seg k.toNat).taken
 refine⟨by omega,?_⟩
 simp
 omega

theorem src_wv{H:zV}{p:zW}{ws:List Int}(h:SrcAt H p (wvs ws)){i:Nat}(hi:i<ws.length): ∃a,p=some a/\hat H (a.add (i*1))=some (.int .u64 ws[i]):=by
 cases p with
 | none=>rw[SrcAt_none]at h;simp[wvs]at h;subst h;simp at hi
 | some a=>
  refine⟨a,rfl,?_⟩
  have:=rowAt_hat (show RowAt H a 0 (wvs ws)from h) i (.int .u64 ws[i]) (by simp[wvs,hi])
  rw[Nat.zero_add]at this;rw[Nat.mul_one];exact this
structure Alls (m:Mem) (all:List Int):Prop where
 nodup:all.Nodup
 good: ∀w∈all,IsWord w/\m.sizeOf w≠0
theorem size_addr{m:Mem}{w:Int}(h:m.sizeOf w≠0):isAddr w:=by
 unfold Mem.sizeOf at h
 by_cases hp:m.isPair w
 ·rcases hp.1 with q | q<;>exact q.1
 ·rw[if_neg hp]at h
  by_cases ho:m.isObj w
  ·exact ho.1.1
  ·rw[if_neg ho]at h;exact absurd rfl h
theorem Alls.len{m:Mem}{all:List Int}(h:Alls m all):all.length<=524288:=by
 have h1:=sum_cover (λ_=>1) 524288 all h.nodup (λa ha=>by
  obtain⟨q1,q2⟩:=h.good a ha
  have:=(size_addr q2).2
  exact⟨q1.1,by show a+1<=524288;omega⟩) (λa _ b _ hab=>by show a+1<=b;omega)
 have h2:(all.map λ_=>1).sum=all.length:=by
  induction all with
  | nil=>rfl
  | cons a l _=>simp[List.map_const'];omega
 rw[h2]at h1
 rw[h1]
 exact Nat.le_trans List.countP_le_length (by rw[List.length_range];exact Nat.le_refl _)
theorem perm_sum{α:Type}(f:α->Nat){l l':List α}(h:l.Perm l'):(l.map f).sum=(l'.map f).sum:=by
 induction h with
 | nil=>rfl
 | cons x _ ih=>simp only[List.map_cons,List.sum_cons,ih]
 | swap x y l=>simp only[List.map_cons,List.sum_cons];omega
 | trans _ _ h1 h2=>exact h1.trans h2
