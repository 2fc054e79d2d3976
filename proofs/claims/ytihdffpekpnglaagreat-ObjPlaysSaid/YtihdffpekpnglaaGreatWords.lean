/-
 The segments that are taken, in the order in which they were; how many words they have. Proves nothing of any one statement.
-/
import Derived.Test.YtihdffpekpnglaaGreatSort
set_option linter.unusedVariables false
set_option linter.unusedSimpArgs false
namespace Go.Proofs.YtihdffpekpnglaaGreat
open Go

def ivs(l:List Int):List Value:=l.map (Value.int .i64)
theorem qs(l:List Int):gF (ivs l)=true:=by
 induction l with
 | nil=>rfl
 | cons x l ih=>simpa[ivs,gF]using ih
theorem lA{H:zW}{x y:Int}:cmp_Compare_int.C x y H (λv H'=>v=.int .i64 (Lib.compareInt x y)/\H'=H):=by
 refine HC.via λR hR=>cmp_Compare_int.link ?_
 unfold cmp_Compare_int.pt
 refine cmp_isNaN_int.link ?_
 unfold cmp_isNaN_int.pt
 refine⟨_,rfl,cmp_isNaN_int.link ?_⟩
 unfold cmp_isNaN_int.pt
 refine⟨_,rfl,?_⟩
 have hx: ¬(x !=x)=true:=by simp
 have hy: ¬(y !=y)=true:=by simp
 rw[if_neg hx,if_neg hy]
 unfold Lib.compareInt at hR
 by_cases h1:x<y
 ·rw[if_pos h1]at hR⊢;exact hR _ _ ⟨rfl,rfl⟩
 rw[if_neg h1]at hR⊢
 by_cases h2:x>y
 ·rw[if_pos h2]at hR⊢;exact hR _ _ ⟨rfl,rfl⟩
 ·rw[if_neg h2]at hR⊢;exact hR _ _ ⟨rfl,rfl⟩
theorem qJ{H:zW}{B:zY}{xs:List Int}(h:cY H B (ivs xs)){i:Nat}(hi:i<xs.length): ∃a,B=some a/\hat H (a.add (i*1))=some (.int .i64 xs[i]):=by
 cases B with
 | none=>rw[SrcAt_none]at h;simp[ivs]at h;subst h;simp at hi
 | some a=>
  refine⟨a,rfl,?_⟩
  have:=gZ (show aG H a 0 _ from h) i (.int .i64 xs[i]) (by simp[ivs,hi])
  rw[Nat.zero_add]at this;rw[Nat.mul_one];exact this
theorem kt{H:zW}{B:zY}{n c:Nat}{xs:List Int}{v:Int}(hs:cY H B (ivs xs))(hn:n=xs.length)(hl:n<=1000000):
  cE.C B n c v H (λu H'=>u=.bool (decide (v∈xs))/\H'=H):=by
 subst hn
 refine HC.via λR hR=>cE.link ?_
 unfold cE.pt
 refine dR.link ?_
 unfold dR.pt zq
 refine⟨λi A=>(0<=i/\i<=xs.length)/\v ∉ xs.take i.toNat/\A=H,λi _=>(xs.length-i).toNat,⟨by omega,by simp,rfl⟩,?_⟩
 rintro i A ⟨hi,hv,rfl⟩
 by_cases hlt:i< (xs.length:Int)
 ·rw[if_pos hlt]
  have h1:i.toNat<xs.length:=by omega
  obtain⟨a,rfl,g⟩:=qJ hs h1
  refine⟨a,rfl,⟨hi.1,hlt⟩,_,g,?_⟩
  by_cases he:v=xs[i.toNat]
  ·rw[if_pos he]
   refine⟨_,rfl,?_⟩
   rw[zQ (show i>=0 from hi.1)]
   exact hR _ _ ⟨by rw[zQ (he▸List.getElem_mem h1)],rfl⟩
  ·rw[if_neg he,w64 (n:=i+1) (by omega)]
   have hs:(i+1).toNat=i.toNat+1:=by omega
   refine⟨⟨by omega,?_,rfl⟩,by show((xs.length:Int)-(i+1)).toNat< ((xs.length:Int)-i).toNat;omega⟩
   rw[hs,List.take_succ_eq_append_getElem h1]
   intro h
   rcases List.mem_append.1 h with h | h
   ·exact hv h
   ·exact he (by simpa using h)
 ·rw[if_neg hlt]
  rw[List.take_of_length_le (by omega)]at hv
  refine⟨_,rfl,?_⟩
  rw[zJ (by decide)]
  exact hR _ _ ⟨by rw[zJ hv],rfl⟩

def Mem.takenTo(m:Mem)(gs:List Int)(k:Nat):List Nat:=(List.range k).filter λi=>decide (0< (m.seg i).taken) && (gs.isEmpty || decide ((m.seg i).gen∈gs))
structure km (m:Mem) (gs:List Int) (l:List Nat):Prop where
 perm:l.Perm (m.takenTo gs m.limit)
 sorted:l.Pairwise (λi j=>(m.seg i).taken<=(m.seg j).taken)
theorem Mem.takenTo_lt{m:Mem}{gs:List Int}{k i:Nat}(h:i∈m.takenTo gs k):i<k:=by
 unfold Mem.takenTo at h;rw[List.mem_filter,List.mem_range]at h;exact h.1
theorem Mem.takenTo_len(m:Mem)(gs:List Int)(k:Nat):(m.takenTo gs k).length<=k:=by
 unfold Mem.takenTo;refine Nat.le_trans (List.length_filter_le _ _) (by simp)
theorem Mem.takenTo_succ(m:Mem)(gs:List Int)(k:Nat):m.takenTo gs (k+1)=m.takenTo gs k++(if 0< (m.seg k).taken/\(gs=[]\/(m.seg k).gen∈gs)then[k]else[]):=by
 unfold Mem.takenTo
 rw[List.range_succ,List.filter_append]
 congr 1
 by_cases h:0< (m.seg k).taken/\(gs=[]\/(m.seg k).gen∈gs)
 ·rw[if_pos h]
  have:(decide (0< (m.seg k).taken) && (gs.isEmpty || decide ((m.seg k).gen∈gs)))=true:=by
   rcases h with⟨h1,rfl | h2⟩<;>simp_all
  simp[this]
 ·rw[if_neg h]
  have:(decide (0< (m.seg k).taken) && (gs.isEmpty || decide ((m.seg k).gen∈gs)))=false:=by
   simp only[Bool.and_eq_false_iff,Bool.or_eq_false_iff,decide_eq_false_iff_not,List.isEmpty_eq_false_iff]
   by_cases h1:0< (m.seg k).taken
   ·refine .inr ⟨λh2=>h ⟨h1,.inl h2⟩,λh2=>h ⟨h1,.inr h2⟩⟩
   ·exact .inl h1
  simp[this]
set_option maxRecDepth 100000 in
theorem pA{H:zW}{bm bs:Nat}{m:Mem}{gB:zY}{gN gC:Nat}{gs:List Int}(M:eP H bm bs m)(ok:cF m)(hg:cY H gB (ivs gs))(hgn:gN=gs.length)(hgl:gN<=1000):
  gu.C (some ⟨bm,0,none⟩) gB gN gC H (λv H'=> ∃(B:zY) (c:Nat) (l:List Nat),v=.slice B l.length c/\km m gs l/\Own H' 3 1 B l.length c (ivs (l.map λi:Nat=>(i:Int)))/\(∀i∈blks B,H.size<=i)/\Ext H H'):=by
 refine HC.via λR hR=>gu.link ?_
 unfold gu.pt zq
 have hlim:=ok.lim
 intro b H1 hb hH1
 have e1:Ext H H1:=Ext.push' hH1
 have g1:=aO hb hH1
 have s1:H1.size=H.size+1:=by rw[hH1];simp
 refine⟨_,by rw[aU g1];rfl,?_⟩
 rw[onPtr_some]
 have M1:=M.ext e1
 refine⟨_,by rw[aU g1];rfl,_,rfl,_,_,_,M1.segsAt.choose_spec,?_⟩
 refine⟨λB n c i A=>(0<=i/\i<=m.limit)/\n=(m.takenTo gs i.toNat).length/\Own A 3 1 B n c (ivs ((m.takenTo gs i.toNat).map λi:Nat=>(i:Int)))/\(∀j∈blks B,H1.size<=j)/\Ext H1 A,λ_ _ _ i _=>(m.limit-i).toNat,
  ⟨by omega,rfl,gH,by simp,Ext.refl _⟩,?_⟩
 rintro B n c i A ⟨hi,rfl,how,hy,eA⟩
 have MA:=M1.ext eA
 have gA:=eA.get g1
 by_cases hlt:i< (m.limit:Int)
 ·rw[if_pos hlt]
  have hiN:i.toNat<m.limit:=by omega
  have hs:(i+1).toNat=i.toNat+1:=by omega
  have h7:=MA.at hiN (j:=7) (by decide)
  have h0:=MA.at hiN (j:=0) (by decide)
  refine⟨_,by rw[aU gA];rfl,_,rfl,_,_,_,MA.segsAt.choose_spec,_,rfl,⟨hi.1,hlt⟩,(m.seg i.toNat).taken,by rw[addr_add_mk,addr_add_mk,Nat.zero_add];exact h7,?_⟩
  rw[w64 (n:=i+1) (by omega)]
  have hm:((m.limit:Int)-(i+1)).toNat< ((m.limit:Int)-i).toNat:=by omega
  have hle:=m.takenTo_len gs i.toNat
  have step: ∀(A':zW) (b2:Nat) (A2:zW),Ext A A'->b2=A'.size->A2=A'.push (.cells #[.int .i64 i] 3)->(0< (m.seg i.toNat).taken/\(gs=[]\/(m.seg i.toNat).gen∈gs))->
    bW 1 3 8 [.int .i64 0] B (m.takenTo gs i.toNat).length c (some (Addr.mk b2 0 none)) 1 A2 (λap apC H4=>
     ((0<=i+1/\i+1<=m.limit)/\(m.takenTo gs i.toNat).length+1=(m.takenTo gs (i+1).toNat).length/\Own H4 3 1 ap ((m.takenTo gs i.toNat).length+1) apC (ivs ((m.takenTo gs (i+1).toNat).map λi:Nat=>(i:Int)))/\(∀j∈blks ap,H1.size<=j)/\Ext H1 H4)/\((m.limit:Int)-(i+1)).toNat< ((m.limit:Int)-i).toNat):=by
   intro A' b2 A2 eA' hb2 hA2 hin
   have e2:Ext A' A2:=Ext.push' hA2
   refine cZ (ys:=[.int .i64 i]) (how.ext (eA'.trans e2)) (dH (aO hb2 hA2) _ 0 0 (λj hj=>by simp)) rfl rfl rfl (by omega) ?_
   intro p' c' H4 how4 f4 hn4
   have hsuc:m.takenTo gs (i.toNat+1)=m.takenTo gs i.toNat++[i.toNat]:=by rw[Mem.takenTo_succ,if_pos hin]
   refine⟨⟨by omega,by rw[hs,hsuc];simp,?_,λj hj=>?_,((eA.trans eA').trans e2).fr_trans f4 hy⟩,hm⟩
   ·rw[hs,hsuc,List.map_append]
    have:(i.toNat:Int)=i:=by omega
    simpa[ivs,this]using how4
   ·rcases hn4 j hj with h | h
    ·exact hy j h
    ·have:=eA.size;have:=eA'.size;have:=e2.size;omega
  have skip: ∀(A':zW),Ext A A'-> ¬(0< (m.seg i.toNat).taken/\(gs=[]\/(m.seg i.toNat).gen∈gs))->
    ((0<=i+1/\i+1<=m.limit)/\(m.takenTo gs i.toNat).length=(m.takenTo gs (i+1).toNat).length/\Own A' 3 1 B (m.takenTo gs i.toNat).length c (ivs ((m.takenTo gs (i+1).toNat).map λi:Nat=>(i:Int)))/\(∀j∈blks B,H1.size<=j)/\Ext H1 A')/\((m.limit:Int)-(i+1)).toNat< ((m.limit:Int)-i).toNat:=by
   intro A' eA' hin
   have hsuc:m.takenTo gs (i.toNat+1)=m.takenTo gs i.toNat:=by rw[Mem.takenTo_succ,if_neg hin,List.append_nil]
   exact⟨⟨by omega,by rw[hs,hsuc],by rw[hs,hsuc];exact how.ext eA',hy,eA.trans eA'⟩,hm⟩
  by_cases ht:(m.seg i.toNat).taken>0
  ·rw[if_pos ht]
   by_cases hg0:(gN:Int)=0
   ·rw[if_pos hg0]
    have hgs:gs=[]:=List.length_eq_zero_iff.1 (by omega)
    intro b2 H3 hb2 hH3
    exact step A b2 H3 (Ext.refl _) hb2 hH3 ⟨ht,.inl hgs⟩
   ·rw[if_neg hg0]
    refine⟨(m.seg i.toNat).gen,by rw[addr_add_mk,Nat.zero_add];exact h0,?_⟩
    refine HC.mono (kt ((hg.ext e1).ext eA) hgn (by omega)) ?_
    rintro _ H5 ⟨rfl,h5⟩
    subst h5
    refine⟨_,rfl,?_⟩
    have hne:gs≠[]:=λh=>hg0 (by rw[hgn,h];rfl)
    by_cases hin:(m.seg i.toNat).gen∈gs
    ·rw[if_pos (zQ hin)]
     intro b3 H6 hb3 hH6
     exact step _ b3 H6 (Ext.refl _) hb3 hH6 ⟨ht,.inr hin⟩
    ·rw[if_neg (by simpa using hin)]
     exact skip _ (Ext.refl _) (λh=>h.2.elim hne hin)
  ·rw[if_neg ht]
   exact skip _ (Ext.refl _) (λh=>ht h.1)
 rw[if_neg hlt]
 have hil:i.toNat=m.limit:=by omega
 rw[hil]at how⊢
 cases B with
 | none=>
  obtain⟨h0,rfl,_⟩:=how
  have hnil:m.takenTo gs m.limit=[]:=List.length_eq_zero_iff.1 h0
  rw[h0]
  refine HC.mono pz ?_
  rintro _ H8 ⟨_,rfl⟩
  exact hR _ _ ⟨none,0,[],rfl,⟨by rw[hnil],List.Pairwise.nil⟩,gH,by simp,e1.trans eA⟩
 | some a=>
  have ha:a=⟨a.block,0,none⟩:=how.1
  obtain⟨k,hk⟩: ∃k,m.limit=k+1:=⟨m.limit-1,by omega⟩
  have hlt': ∀i∈m.takenTo gs m.limit,i<k+1:=λi hi=>hk▸Mem.takenTo_lt hi
  generalize hxs:(m.takenTo gs m.limit).attach.map (λi=>(⟨i.1,hlt' i.1 i.2⟩:Fin (k+1)))=xs
  have hvals:xs.map (λx=>x.val)=m.takenTo gs m.limit:=by rw[<-hxs];simp
  have henc:ivs ((m.takenTo gs m.limit).map λi:Nat=>(i:Int))=xs.map encF:=by
   rw[<-hvals];simp[ivs,encF,Function.comp_def]
  rw[henc]at how
  rw[ha]at how⊢
  have hbA:a.block≠b:=by have:=hy a.block (by simp);omega
  have hMb:a.block≠bm/\a.block≠bs:=by
   have:=hy a.block (by simp);have:=M.lt;omega
  refine HC.mono (ti (k:=k) (tk:=λx=>(m.seg x.val).taken) how (by have:=m.takenTo_len gs m.limit;omega) (enters_of Tryz.func62 (by kernel_rfl) rfl) ?_) ?_
  ·intro H' f x y
   refine HC.via λR' hR'=>gK.link ?_
   unfold gK.pt
   have gb:=f.get (b:=b) (by simp;omega) gA
   have M':=MA.keep f (by simp;omega) (by simp;omega)
   have hx7:=M'.at (k:=x.val) (by have:=x.isLt;omega) (j:=7) (by decide)
   have hy7:=M'.at (k:=y.val) (by have:=y.isLt;omega) (j:=7) (by decide)
   have hxl:=x.isLt
   have hyl:=y.isLt
   refine⟨_,rfl,_,by rw[aU gb];rfl,_,rfl,_,_,_,M'.segsAt.choose_spec,_,rfl,⟨by omega,by omega⟩,(m.seg x.val).taken,by rw[show Int.toNat (x.val:Int)=x.val by omega,addr_add_mk,addr_add_mk,Nat.zero_add];exact hx7,
    _,by rw[aU gb];rfl,_,rfl,_,_,_,M'.segsAt.choose_spec,_,rfl,⟨by omega,by omega⟩,(m.seg y.val).taken,by rw[show Int.toNat (y.val:Int)=y.val by omega,addr_add_mk,addr_add_mk,Nat.zero_add];exact hy7,?_⟩
   refine HC.mono lA ?_
   rintro _ H1' ⟨rfl,h1'⟩
   exact⟨_,rfl,hR' _ _ ⟨rfl,h1'▸Ext.refl _⟩⟩
  ·rintro _ H8 ⟨_,ys,hp,hsrt,how8,f8⟩
   have hlen:(ys.map (λy=>y.val)).length=(m.takenTo gs m.limit).length:=by
    rw[List.length_map,hp.length_eq,<-hvals,List.length_map]
   rw[<-hlen]at how8⊢
   refine hR _ _ ⟨some ⟨a.block,0,none⟩,c,ys.map (λy=>y.val),rfl,⟨?_,?_⟩,?_,λj hj=>?_,(e1.trans eA).fr_trans f8 (λj hj=>?_)⟩
   ·rw[<-hvals];exact hp.map _
   ·exact List.pairwise_map.2 hsrt
   ·have:ivs ((ys.map λy=>y.val).map λi:Nat=>(i:Int))=ys.map encF:=by simp[ivs,encF,Function.comp_def]
    rw[this];exact how8
   ·simp at hj;have:=hy a.block (by simp);omega
   ·simp at hj;have:=hy a.block (by simp);omega

def Mem.sumN(m:Mem)(l:List Nat):Int:=(l.map λi=>(m.seg i).n).sum
def Mem.words(m:Mem)(gs:List Int):Int:=m.sumN (m.takenTo gs m.limit)
theorem km.has{m:Mem}{gs:List Int}{l:List Nat}(h:km m gs l){i:Nat}(hi:i∈l):m.has (i:Int)/\i<m.limit/\0< (m.seg i).taken/\(gs=[]\/(m.seg i).gen∈gs):=by
 have h1:=h.perm.subset hi
 have hlt:=Mem.takenTo_lt h1
 unfold Mem.takenTo at h1
 rw[List.mem_filter]at h1
 simp only[Bool.and_eq_true,decide_eq_true_eq,Bool.or_eq_true,List.isEmpty_iff]at h1
 refine⟨⟨by omega,by omega,?_⟩,hlt,h1.2.1,h1.2.2⟩
 have:((i:Int)).toNat=i:=by omega
 rw[this];omega
theorem km.len{m:Mem}{gs:List Int}{l:List Nat}(h:km m gs l):l.length<=m.limit:=by
 rw[h.perm.length_eq];exact m.takenTo_len gs _
theorem tj{H:zW}{T:TypeId}{B:zY}{n c:Nat}{l:List Nat}(how:Own H T 1 B n c (ivs (l.map λi:Nat=>(i:Int)))){i:Nat}(hi:i<l.length): ∃a,B=some a/\hat H (a.add (i*1))=some (.int .i64 (l[i]:Int)):=by
 obtain⟨a,ha,h⟩:=qJ how.src (i:=i) (by simpa using hi)
 exact⟨a,ha,by simpa using h⟩
