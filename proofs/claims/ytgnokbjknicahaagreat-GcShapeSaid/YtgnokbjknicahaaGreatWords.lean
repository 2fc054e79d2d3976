/-
 How many words the segments of some generations have. Proves nothing of any one statement.
-/
import Derived.Test.YtgnokbjknicahaaGreatTaken
set_option linter.unusedVariables false
set_option linter.unusedSimpArgs false
namespace Go.Proofs.YtgnokbjknicahaaGreat
open Go

def Mem.sumN(m:Mem)(l:List Nat):Int:=(l.map λi=>(m.seg i).n).sum
def Mem.words(m:Mem)(gs:List Int):Int:=m.sumN (m.takenTo gs m.limit)
theorem sumN_perm{m:Mem}{l l':List Nat}(h:l.Perm l'):m.sumN l=m.sumN l':=by
 induction h with
 | nil=>rfl
 | cons x _ ih=>simp only[Mem.sumN,List.map_cons,List.sum_cons]at*;omega
 | swap x y l=>simp only[Mem.sumN,List.map_cons,List.sum_cons];omega
 | trans _ _ h1 h2=>exact h1.trans h2
theorem sumN_append(m:Mem)(l l':List Nat):m.sumN (l++l')=m.sumN l+m.sumN l':=by unfold Mem.sumN;rw[List.map_append,List.sum_append]
theorem sumN_bd{m:Mem}(ok:MemOK m)(l:List Nat):0<=m.sumN l/\m.sumN l<=64*l.length:=by
 induction l with
 | nil=>simp[Mem.sumN]
 | cons i l ih=>
  have h:=(ok.seg i).n
  have e:m.sumN (i::l)=(m.seg i).n+m.sumN l:=by simp[Mem.sumN]
  rw[e];simp only[List.length_cons];omega
theorem IsTaken.has{m:Mem}{gs:List Int}{l:List Nat}(h:IsTaken m gs l){i:Nat}(hi:i∈l):m.has (i:Int)/\i<m.limit/\0< (m.seg i).taken/\(gs=[]\/(m.seg i).gen∈gs):=by
 have h1:=h.perm.subset hi
 have hlt:=Mem.takenTo_lt h1
 unfold Mem.takenTo at h1
 rw[List.mem_filter]at h1
 simp only[Bool.and_eq_true,decide_eq_true_eq,Bool.or_eq_true,List.isEmpty_iff]at h1
 refine⟨⟨by omega,by omega,?_⟩,hlt,h1.2.1,h1.2.2⟩
 have:((i:Int)).toNat=i:=by omega
 rw[this];omega
theorem IsTaken.len{m:Mem}{gs:List Int}{l:List Nat}(h:IsTaken m gs l):l.length<=m.limit:=by
 rw[h.perm.length_eq];exact m.takenTo_len gs _
theorem ivs_at{H:zV}{T:TypeId}{B:zW}{n c:Nat}{l:List Nat}(how:Own H T 1 B n c (ivs (l.map λi:Nat=>(i:Int)))){i:Nat}(hi:i<l.length): ∃a,B=some a/\hat H (a.add (i*1))=some (.int .i64 (l[i]:Int)):=by
 obtain⟨a,ha,h⟩:=src_int how.src (i:=i) (by simpa using hi)
 exact⟨a,ha,by simpa using h⟩
theorem space_Words_c{H:zV}{b:Blk}{s:Sp}{gB:zW}{gN gC:Nat}{gs:List Int}(h:SpAt H b s)(ok:SpOK s)(hg:SrcAt H gB (ivs gs))(hgn:gN=gs.length)(hgl:gN<=1000):
  space_Space_Words.C (some ⟨b.sp,0,none⟩) gB gN gC H (λv H'=>v=.int .i64 (s.mem.words gs)/\Ext H H'):=by
 refine HC.via λR hR=>space_Space_Words.link ?_
 unfold space_Space_Words.pt zY
 refine HC.mono (space_none_c h) ?_
 rintro _ H1 ⟨rfl,h1⟩
 subst h1
 refine⟨_,rfl,?_⟩
 rw[if_neg (by decide)]
 refine⟨_,rfl,_,h.memPtr,HC.mono (seg_Taken_c h.mem ok.mem hg hgn hgl) ?_⟩
 rintro _ H2 ⟨B,c,l,rfl,T,how,hy,e2⟩
 have hlim:=ok.mem.lim
 have hll:=T.len
 refine⟨_,_,_,rfl,λsum i A=>(0<=i/\i<=l.length)/\sum=s.mem.sumN (l.take i.toNat)/\Ext H2 A,λ_ i _=>(l.length-i).toNat,⟨by omega,by simp[Mem.sumN],Ext.refl _⟩,?_⟩
 rintro sum i A ⟨hi,rfl,eA⟩
 by_cases hlt:i< (l.length:Int)
 ·rw[if_pos hlt]
  have hiN:i.toNat<l.length:=by omega
  obtain⟨a,rfl,ga⟩:=ivs_at (how.ext eA) hiN
  have hA:=(h.ext e2).ext eA
  refine⟨a,rfl,⟨hi.1,hlt⟩,_,ga,_,hA.memPtr,HC.mono (seg_Seg_c hA.mem) ?_⟩
  rintro _ H4 ⟨rfl,e4⟩
  have hh:=(T.has (List.getElem_mem hiN)).1
  have hk:((l[i.toNat]:Nat):Int).toNat=l[i.toNat]:=by omega
  rw[if_pos hh,hk]
  refine⟨_,_,_,_,_,_,_,_,rfl,λb5 H5 hb5 hH5=>?_⟩
  obtain⟨c6,p6⟩:=box_new (n:=7) (vs:=[.int .i64 (s.mem.seg l[i.toNat]).gen,.int .i64 (s.mem.seg l[i.toNat]).kind,.int .i64 (s.mem.seg l[i.toNat]).n,.int .i64 ((s.mem.seg l[i.toNat]).cards 0),.int .i64 ((s.mem.seg l[i.toNat]).cards 1),.int .i64 ((s.mem.seg l[i.toNat]).cards 2),.int .i64 ((s.mem.seg l[i.toNat]).cards 3)]) hb5 hH5 rfl rfl
  refine⟨c6,λH6 hH6=>?_⟩
  obtain⟨g6,e6⟩:=p6 H6 hH6
  have hs:(i+1).toNat=i.toNat+1:=by omega
  have hbd:=sumN_bd ok.mem (l.take i.toNat)
  have hn:=(ok.mem.seg l[i.toNat]).n
  have hlen:(l.take i.toNat).length<=1024:=by simp;omega
  refine⟨_,by rw[box_get g6 2];rfl,?_⟩
  rw[w64 (n:=i+1) (by omega),w64 (n:=s.mem.sumN (l.take i.toNat)+(s.mem.seg l[i.toNat]).n) (by omega)]
  refine⟨⟨by omega,?_,(eA.trans e4).trans e6⟩,by show((l.length:Int)-(i+1)).toNat< ((l.length:Int)-i).toNat;omega⟩
  rw[hs,List.take_succ_eq_append_getElem hiN,sumN_append]
  simp[Mem.sumN]
 ·rw[if_neg hlt]
  rw[List.take_of_length_le (by omega)]
  exact hR _ _ ⟨by rw[sumN_perm T.perm];rfl,e2.trans eA⟩
