/-
 The segments that are taken, in the order in which they were; how many words they have. Proves nothing of any one statement.
-/
import Derived.Test.YtmlhlkbpglcccaaGreatSort
import Derived.Test.YtmlhlkbpglcccaaGreatFsegx
import Derived.Test.YtmlhlkbpglcccaaGreatFspacex
import Derived.Test.YtmlhlkbpglcccaaGreatFcmp
import Derived.Test.YtmlhlkbpglcccaaGreatFslices
set_option linter.unusedVariables false
set_option linter.unusedSimpArgs false
namespace Go.Proofs.YtmlhlkbpglcccaaGreat
open Go

def ivs(l:List Int):List Value:=l.map (Value.int .i64)
theorem iI{H:zV}{x y:Int}:cmp_Compare_int.C x y H (λv H'=>v=.int .i64 (Lib.compareInt x y)/\H'=H):=by
 refine HC.via λR hR=>cmp_Compare_int.link ?_
 unfold cmp_Compare_int.pt
 refine cmp_isNaN_int.link ?_
 unfold cmp_isNaN_int.pt
 refine⟨_,rfl,cmp_isNaN_int.link ?_⟩
 unfold cmp_isNaN_int.pt
 refine⟨_,rfl,?_⟩
 have hx: ¬(x !=x)=true:=by simp
 have hy: ¬(y !=y)=true:=by simp
 rw[if_neg hx,if_neg hy]
 unfold Lib.compareInt at hR
 by_cases h1:x<y
 ·rw[if_pos h1]at hR⊢;exact hR _ _ ⟨rfl,rfl⟩
 rw[if_neg h1]at hR⊢
 by_cases h2:x>y
 ·rw[if_pos h2]at hR⊢;exact hR _ _ ⟨rfl,rfl⟩
 ·rw[if_neg h2]at hR⊢;exact hR _ _ ⟨rfl,rfl⟩
theorem jq{H:zV}{B:zW}{xs:List Int}(h:dd H B (ivs xs)){i:Nat}(hi:i<xs.length): ∃a,B=some a/\hat H (a.add (i*1))=some (.int .i64 xs[i]):=by
 cases B with
 | none=>rw[SrcAt_none]at h;simp[ivs]at h;subst h;simp at hi
 | some a=>
  refine⟨a,rfl,?_⟩
  have:=er (show aT H a 0 _ from h) i (.int .i64 xs[i]) (by simp[ivs,hi])
  rw[Nat.zero_add]at this;rw[Nat.mul_one];exact this
theorem gS{H:zV}{B:zW}{n c:Nat}{xs:List Int}{v:Int}(hs:dd H B (ivs xs))(hn:n=xs.length)(hl:n<=1000000):
  bG.C B n c v H (λu H'=>u=.bool (decide (v∈xs))/\H'=H):=by
 subst hn
 refine HC.via λR hR=>bG.link ?_
 unfold bG.pt
 refine bY.link ?_
 unfold bY.pt zY
 refine⟨λi A=>(0<=i/\i<=xs.length)/\v ∉ xs.take i.toNat/\A=H,λi _=>(xs.length-i).toNat,⟨by omega,by simp,rfl⟩,?_⟩
 rintro i A ⟨hi,hv,rfl⟩
 by_cases hlt:i< (xs.length:Int)
 ·rw[if_pos hlt]
  have h1:i.toNat<xs.length:=by omega
  obtain⟨a,rfl,g⟩:=jq hs h1
  refine⟨a,rfl,⟨hi.1,hlt⟩,_,g,?_⟩
  by_cases he:v=xs[i.toNat]
  ·rw[if_pos he]
   refine⟨_,rfl,?_⟩
   rw[zX (show i>=0 from hi.1)]
   exact hR _ _ ⟨by rw[zX (he▸List.getElem_mem h1)],rfl⟩
  ·rw[if_neg he,w64 (n:=i+1) (by omega)]
   have hs:(i+1).toNat=i.toNat+1:=by omega
   refine⟨⟨by omega,?_,rfl⟩,by show((xs.length:Int)-(i+1)).toNat< ((xs.length:Int)-i).toNat;omega⟩
   rw[hs,List.take_succ_eq_append_getElem h1]
   intro h
   rcases List.mem_append.1 h with h | h
   ·exact hv h
   ·exact he (by simpa using h)
 ·rw[if_neg hlt]
  rw[List.take_of_length_le (by omega)]at hv
  refine⟨_,rfl,?_⟩
  rw[zQ (by decide)]
  exact hR _ _ ⟨by rw[zQ hv],rfl⟩

def Mem.takenTo(m:Mem)(gs:List Int)(k:Nat):List Nat:=(List.range k).filter λi=>decide (0< (m.seg i).taken) && (gs.isEmpty || decide ((m.seg i).gen∈gs))
structure dP (m:Mem) (gs:List Int) (l:List Nat):Prop where
 perm:l.Perm (m.takenTo gs m.limit)
 sorted:l.Pairwise (λi j=>(m.seg i).taken<=(m.seg j).taken)
theorem Mem.takenTo_lt{m:Mem}{gs:List Int}{k i:Nat}(h:i∈m.takenTo gs k):i<k:=by
 unfold Mem.takenTo at h;rw[List.mem_filter,List.mem_range]at h;exact h.1
theorem Mem.takenTo_len(m:Mem)(gs:List Int)(k:Nat):(m.takenTo gs k).length<=k:=by
 unfold Mem.takenTo;refine Nat.le_trans (List.length_filter_le _ _) (by simp)
theorem Mem.takenTo_succ(m:Mem)(gs:List Int)(k:Nat):m.takenTo gs (k+1)=m.takenTo gs k++(if 0< (m.seg k).taken/\(gs=[]\/(m.seg k).gen∈gs)then[k]else[]):=by
 unfold Mem.takenTo
 rw[List.range_succ,List.filter_append]
 congr 1
 by_cases h:0< (m.seg k).taken/\(gs=[]\/(m.seg k).gen∈gs)
 ·rw[if_pos h]
  have:(decide (0< (m.seg k).taken) && (gs.isEmpty || decide ((m.seg k).gen∈gs)))=true:=by
   rcases h with⟨h1,rfl | h2⟩<;>simp_all
  simp[this]
 ·rw[if_neg h]
  have:(decide (0< (m.seg k).taken) && (gs.isEmpty || decide ((m.seg k).gen∈gs)))=false:=by
   simp only[Bool.and_eq_false_iff,Bool.or_eq_false_iff,decide_eq_false_iff_not,List.isEmpty_eq_false_iff]
   by_cases h1:0< (m.seg k).taken
   ·refine .inr ⟨λh2=>h ⟨h1,.inl h2⟩,λh2=>h ⟨h1,.inr h2⟩⟩
   ·exact .inl h1
  simp[this]
set_option maxRecDepth 100000 in
theorem fR{H:zV}{bm bs:Nat}{m:Mem}{gB:zW}{gN gC:Nat}{gs:List Int}(M:cx H bm bs m)(ok:bI m)(hg:dd H gB (ivs gs))(hgn:gN=gs.length)(hgl:gN<=1000):
  cz.C (some ⟨bm,0,none⟩) gB gN gC H (λv H'=> ∃(B:zW) (c:Nat) (l:List Nat),v=.slice B l.length c/\dP m gs l/\Own H' 3 1 B l.length c (ivs (l.map λi:Nat=>(i:Int)))/\(∀i∈blks B,H.size<=i)/\Ext H H'):=by
 refine HC.via λR hR=>cz.link ?_
 unfold cz.pt zY
 have hlim:=ok.lim
 intro b H1 hb hH1
 have e1:Ext H H1:=Ext.push' hH1
 have g1:=aL hb hH1
 have s1:H1.size=H.size+1:=by rw[hH1];simp
 refine⟨_,by rw[aM g1];rfl,?_⟩
 rw[onPtr_some]
 have M1:=M.ext e1
 refine⟨_,by rw[aM g1];rfl,_,rfl,_,_,_,M1.segsAt.choose_spec,?_⟩
 refine⟨λB n c i A=>(0<=i/\i<=m.limit)/\n=(m.takenTo gs i.toNat).length/\Own A 3 1 B n c (ivs ((m.takenTo gs i.toNat).map λi:Nat=>(i:Int)))/\(∀j∈blks B,H1.size<=j)/\Ext H1 A,λ_ _ _ i _=>(m.limit-i).toNat,
  ⟨by omega,rfl,gJ,by simp,Ext.refl _⟩,?_⟩
 rintro B n c i A ⟨hi,rfl,how,hy,eA⟩
 have MA:=M1.ext eA
 have gA:=eA.get g1
 by_cases hlt:i< (m.limit:Int)
 ·rw[if_pos hlt]
  have hiN:i.toNat<m.limit:=by omega
  have hs:(i+1).toNat=i.toNat+1:=by omega
  have h7:=MA.at hiN (j:=7) (by decide)
  have h0:=MA.at hiN (j:=0) (by decide)
  refine⟨_,by rw[aM gA];rfl,_,rfl,_,_,_,MA.segsAt.choose_spec,_,rfl,⟨hi.1,hlt⟩,(m.seg i.toNat).taken,by rw[addr_add_mk,addr_add_mk,Nat.zero_add];exact h7,?_⟩
  rw[w64 (n:=i+1) (by omega)]
  have hm:((m.limit:Int)-(i+1)).toNat< ((m.limit:Int)-i).toNat:=by omega
  have hle:=m.takenTo_len gs i.toNat
  have step: ∀(A':zV) (b2:Nat) (A2:zV),Ext A A'->b2=A'.size->A2=A'.push (.cells #[.int .i64 i] 3)->(0< (m.seg i.toNat).taken/\(gs=[]\/(m.seg i.toNat).gen∈gs))->
    fc 1 3 8 [.int .i64 0] B (m.takenTo gs i.toNat).length c (some (Addr.mk b2 0 none)) 1 A2 (λap apC H4=>
     ((0<=i+1/\i+1<=m.limit)/\(m.takenTo gs i.toNat).length+1=(m.takenTo gs (i+1).toNat).length/\Own H4 3 1 ap ((m.takenTo gs i.toNat).length+1) apC (ivs ((m.takenTo gs (i+1).toNat).map λi:Nat=>(i:Int)))/\(∀j∈blks ap,H1.size<=j)/\Ext H1 H4)/\((m.limit:Int)-(i+1)).toNat< ((m.limit:Int)-i).toNat):=by
   intro A' b2 A2 eA' hb2 hA2 hin
   have e2:Ext A' A2:=Ext.push' hA2
   refine ft (ys:=[.int .i64 i]) (how.ext (eA'.trans e2)) (fd (aL hb2 hA2) _ 0 0 (λj hj=>by simp)) rfl rfl rfl (by omega) ?_
   intro p' c' H4 how4 f4 hn4
   have hsuc:m.takenTo gs (i.toNat+1)=m.takenTo gs i.toNat++[i.toNat]:=by rw[Mem.takenTo_succ,if_pos hin]
   refine⟨⟨by omega,by rw[hs,hsuc];simp,?_,λj hj=>?_,((eA.trans eA').trans e2).fr_trans f4 hy⟩,hm⟩
   ·rw[hs,hsuc,List.map_append]
    have:(i.toNat:Int)=i:=by omega
    simpa[ivs,this]using how4
   ·rcases hn4 j hj with h | h
    ·exact hy j h
    ·have:=eA.size;have:=eA'.size;have:=e2.size;omega
  have skip: ∀(A':zV),Ext A A'-> ¬(0< (m.seg i.toNat).taken/\(gs=[]\/(m.seg i.toNat).gen∈gs))->
    ((0<=i+1/\i+1<=m.limit)/\(m.takenTo gs i.toNat).length=(m.takenTo gs (i+1).toNat).length/\Own A' 3 1 B (m.takenTo gs i.toNat).length c (ivs ((m.takenTo gs (i+1).toNat).map λi:Nat=>(i:Int)))/\(∀j∈blks B,H1.size<=j)/\Ext H1 A')/\((m.limit:Int)-(i+1)).toNat< ((m.limit:Int)-i).toNat:=by
   intro A' eA' hin
   have hsuc:m.takenTo gs (i.toNat+1)=m.takenTo gs i.toNat:=by rw[Mem.takenTo_succ,if_neg hin,List.append_nil]
   exact⟨⟨by omega,by rw[hs,hsuc],by rw[hs,hsuc];exact how.ext eA',hy,eA.trans eA'⟩,hm⟩
  by_cases ht:(m.seg i.toNat).taken>0
  ·rw[if_pos ht]
   by_cases hg0:(gN:Int)=0
   ·rw[if_pos hg0]
    have hgs:gs=[]:=List.length_eq_zero_iff.1 (by omega)
    intro b2 H3 hb2 hH3
    exact step A b2 H3 (Ext.refl _) hb2 hH3 ⟨ht,.inl hgs⟩
   ·rw[if_neg hg0]
    refine⟨(m.seg i.toNat).gen,by rw[addr_add_mk,Nat.zero_add];exact h0,?_⟩
    refine HC.mono (gS ((hg.ext e1).ext eA) hgn (by omega)) ?_
    rintro _ H5 ⟨rfl,h5⟩
    subst h5
    refine⟨_,rfl,?_⟩
    have hne:gs≠[]:=λh=>hg0 (by rw[hgn,h];rfl)
    by_cases hin:(m.seg i.toNat).gen∈gs
    ·rw[if_pos (zX hin)]
     intro b3 H6 hb3 hH6
     exact step _ b3 H6 (Ext.refl _) hb3 hH6 ⟨ht,.inr hin⟩
    ·rw[if_neg (by simpa using hin)]
     exact skip _ (Ext.refl _) (λh=>h.2.elim hne hin)
  ·rw[if_neg ht]
   exact skip _ (Ext.refl _) (λh=>ht h.1)
 rw[if_neg hlt]
 have hil:i.toNat=m.limit:=by omega
 rw[hil]at how⊢
 cases B with
 | none=>
  obtain⟨h0,rfl,_⟩:=how
  have hnil:m.takenTo gs m.limit=[]:=List.length_eq_zero_iff.1 h0
  rw[h0]
  refine HC.mono lm ?_
  rintro _ H8 ⟨_,rfl⟩
  exact hR _ _ ⟨none,0,[],rfl,⟨by rw[hnil],List.Pairwise.nil⟩,gJ,by simp,e1.trans eA⟩
 | some a=>
  have ha:a=⟨a.block,0,none⟩:=how.1
  obtain⟨k,hk⟩: ∃k,m.limit=k+1:=⟨m.limit-1,by omega⟩
  have hlt': ∀i∈m.takenTo gs m.limit,i<k+1:=λi hi=>hk▸Mem.takenTo_lt hi
  generalize hxs:(m.takenTo gs m.limit).attach.map (λi=>(⟨i.1,hlt' i.1 i.2⟩:Fin (k+1)))=xs
  have hvals:xs.map (λx=>x.val)=m.takenTo gs m.limit:=by rw[<-hxs];simp
  have henc:ivs ((m.takenTo gs m.limit).map λi:Nat=>(i:Int))=xs.map encF:=by
   rw[<-hvals];simp[ivs,encF,Function.comp_def]
  rw[henc]at how
  rw[ha]at how⊢
  have hbA:a.block≠b:=by have:=hy a.block (by simp);omega
  have hMb:a.block≠bm/\a.block≠bs:=by
   have:=hy a.block (by simp);have:=M.lt;omega
  refine HC.mono (oU (k:=k) (tk:=λx=>(m.seg x.val).taken) how (by have:=m.takenTo_len gs m.limit;omega) (enters_of Tryz.func78 (by kernel_rfl) rfl) ?_) ?_
  ·intro H' f x y
   refine HC.via λR' hR'=>dX.link ?_
   unfold dX.pt
   have gb:=f.get (b:=b) (by simp;omega) gA
   have M':=MA.keep f (by simp;omega) (by simp;omega)
   have hx7:=M'.at (k:=x.val) (by have:=x.isLt;omega) (j:=7) (by decide)
   have hy7:=M'.at (k:=y.val) (by have:=y.isLt;omega) (j:=7) (by decide)
   have hxl:=x.isLt
   have hyl:=y.isLt
   refine⟨_,rfl,_,by rw[aM gb];rfl,_,rfl,_,_,_,M'.segsAt.choose_spec,_,rfl,⟨by omega,by omega⟩,(m.seg x.val).taken,by rw[show Int.toNat (x.val:Int)=x.val by omega,addr_add_mk,addr_add_mk,Nat.zero_add];exact hx7,
    _,by rw[aM gb];rfl,_,rfl,_,_,_,M'.segsAt.choose_spec,_,rfl,⟨by omega,by omega⟩,(m.seg y.val).taken,by rw[show Int.toNat (y.val:Int)=y.val by omega,addr_add_mk,addr_add_mk,Nat.zero_add];exact hy7,?_⟩
   refine HC.mono iI ?_
   rintro _ H1' ⟨rfl,h1'⟩
   exact⟨_,rfl,hR' _ _ ⟨rfl,h1'▸Ext.refl _⟩⟩
  ·rintro _ H8 ⟨_,ys,hp,hsrt,how8,f8⟩
   have hlen:(ys.map (λy=>y.val)).length=(m.takenTo gs m.limit).length:=by
    rw[List.length_map,hp.length_eq,<-hvals,List.length_map]
   rw[<-hlen]at how8⊢
   refine hR _ _ ⟨some ⟨a.block,0,none⟩,c,ys.map (λy=>y.val),rfl,⟨?_,?_⟩,?_,λj hj=>?_,(e1.trans eA).fr_trans f8 (λj hj=>?_)⟩
   ·rw[<-hvals];exact hp.map _
   ·exact List.pairwise_map.2 hsrt
   ·have:ivs ((ys.map λy=>y.val).map λi:Nat=>(i:Int))=ys.map encF:=by simp[ivs,encF,Function.comp_def]
    rw[this];exact how8
   ·simp at hj;have:=hy a.block (by simp);omega
   ·simp at hj;have:=hy a.block (by simp);omega
