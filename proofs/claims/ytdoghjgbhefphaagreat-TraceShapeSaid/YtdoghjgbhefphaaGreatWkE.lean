/-
  What is come to (package morainelaw11): a thing of a generation is come to; all that are reached, and their words. Proves nothing of any one statement.
-/
import Derived.Test.YtdoghjgbhefphaaGreatWkC
import Derived.Test.YtdoghjgbhefphaaGreatTrD
import Derived.Test.YtdoghjgbhefphaaGreatL11reached
set_option linter.unusedVariables false
set_option linter.unusedSimpArgs false
namespace Go.Proofs.YtdoghjgbhefphaaGreat
open Go

def Mem.come(m:Mem)(g w:Int):Prop:=(m.genOf w).2=true/\(m.genOf w).1<=g
instance (m:Mem) (g w:Int):Decidable (m.come g w):=by unfold Mem.come;infer_instance
def comeW(m:Mem)(g:Int)(all:List Int)(w:Int):List Int:=if m.come g w then ofW m all w else all
def Mem.kid(m:Mem)(w k:Int):Prop:= ¬m.rawT w/\(w % 8≠2\/k=1)
structure Cl (m:Mem) (g:Int) (roots:List Int) (P:Int->Prop):Prop where
  root: ∀w∈roots,m.come g w->m.sizeOf w≠0->P w
  older: ∀x,m.used x->g<m.gAt x->m.strong x->m.come g (m.get x)->m.sizeOf (m.get x)≠0->P (m.get x)
  kid: ∀w,P w->IsWord w->m.sizeOf w≠0-> ∀k:Int,0<=k->k<m.sizeOf w->m.kid w k->m.come g (m.read (w / 8+k))->m.sizeOf (m.read (w / 8+k))≠0->P (m.read (w / 8+k))
structure Reached (m:Mem) (g:Int) (roots all:List Int):Prop where
  alls:Alls m all
  cl:Cl m g roots (· ∈all)
  min: ∀P,Cl m g roots P-> ∀w∈all,P w
def Due(m:Mem)(g:Int)(all:List Int)(w:Int):Prop:=m.come g w->m.sizeOf w≠0->w∈all
theorem of_pre(m:Mem)(all:List Int)(w:Int):all<+:ofW m all w:=by
  unfold ofW
  split
  · exact List.prefix_refl _
  · exact List.prefix_append _ _
theorem come_pre(m:Mem)(g:Int)(all:List Int)(w:Int):all<+:comeW m g all w:=by
  unfold comeW
  split
  · exact of_pre m all w
  · exact List.prefix_refl _
theorem Due.mono{m:Mem}{g w:Int}{all all':List Int}(h:Due m g all w)(p:all<+:all'):Due m g all' w:=λa b=>p.subset (h a b)
theorem come_due(m:Mem)(g:Int)(all:List Int)(w:Int):Due m g (comeW m g all w) w:=λa b=>by
  unfold comeW ofW
  rw[if_pos a]
  by_cases q:w∈all
  · rw[if_pos (.inr q)];exact q
  · rw[if_neg (λr=>r.elim b q)];simp
theorem come_mem{m:Mem}{g w v:Int}{all:List Int}(h:v∈comeW m g all w):v∈all\/(v=w/\m.come g w/\m.sizeOf w≠0):=by
  unfold comeW ofW at h
  split at h
  · rename_i hc
    split at h
    · exact .inl h
    · rename_i hs
      rcases List.mem_append.1 h with q | q
      · exact .inl q
      · simp at q;exact .inr ⟨q,hc,λe=>hs (.inl e)⟩
  · exact .inl h
def Least(m:Mem)(g:Int)(roots all:List Int):Prop:= ∀P,Cl m g roots P-> ∀w∈all,P w
theorem Least.come{m:Mem}{g w:Int}{roots all:List Int}(h:Least m g roots all)(hw: ∀P,Cl m g roots P->m.come g w->m.sizeOf w≠0->P w):Least m g roots (comeW m g all w):=λP c v hv=>by
  rcases come_mem hv with q | ⟨rfl,q1,q2⟩
  · exact h P c v q
  · exact hw P c q1 q2
theorem sizeOf_rng(m:Mem)(w:Int):0<=m.sizeOf w/\m.sizeOf w<=63:=by
  have:=m.len_rng w
  unfold Mem.sizeOf
  split
  · omega
  · split<;>omega
theorem sum_sizes(m:Mem)(l:List Int):0<=(l.map m.sizeOf).sum/\(l.map m.sizeOf).sum<=63*l.length:=by
  induction l with
  | nil=>simp
  | cons a l ih=>
    have:=sizeOf_rng m a
    simp only[List.map_cons,List.sum_cons,List.length_cons]
    omega
theorem iand_one{k:Int}(h:0<=k/\k<64):iand .i64 k 1=k % 2:=by
  have: ∀n:Fin 64,iand .i64 (n.val:Int) 1=(n.val:Int) % 2:=by decide
  have h2:=this ⟨k.toNat,by omega⟩
  simp only at h2
  rwa [show((k.toNat:Nat):Int)=k by omega]at h2

def RS(m:Mem)(H0:Array Obj)(hv:Option Addr)(bw bm:Nat)(X:List Nat)(A:Array Obj)(all:List Int):Prop:=
  ∃(B:Option Addr) (c:Nat),WkAt m A hv bw bm B c all/\Ext H0 A/\ ∀j∈wkB bw bm B,H0.size<=j/\j ∉ X
theorem RS.ext{m:Mem}{H0:Array Obj}{hv:Option Addr}{bw bm:Nat}{X:List Nat}{A A':Array Obj}{all:List Int}(h:RS m H0 hv bw bm X A all)(e:Ext A A'):RS m H0 hv bw bm X A' all:=by
  obtain⟨B,c,h1,h2,h3⟩:=h
  exact⟨B,c,h1.ext e,h2.trans e,h3⟩
theorem RS.grow{m:Mem}{H0:Array Obj}{hv:Option Addr}{bw bm:Nat}{X Y:List Nat}{A:Array Obj}{all:List Int}(h:RS m H0 hv bw bm X A all)(hY: ∀j∈Y,j∈X\/A.size<=j):RS m H0 hv bw bm Y A all:=by
  obtain⟨B,c,h1,h2,h3⟩:=h
  refine⟨B,c,h1,h2,λj hj=>⟨(h3 j hj).1,λq=>?_⟩⟩
  rcases hY j q with r | r
  · exact(h3 j hj).2 r
  · have:=h1.lt j hj;omega
theorem RS.e{m:Mem}{H0:Array Obj}{hv:Option Addr}{bw bm:Nat}{X:List Nat}{A:Array Obj}{all:List Int}(h:RS m H0 hv bw bm X A all):Ext H0 A:=by
  obtain⟨B,c,h1,h2,h3⟩:=h
  exact h2
theorem RS.alls{m:Mem}{H0:Array Obj}{hv:Option Addr}{bw bm:Nat}{X:List Nat}{A:Array Obj}{all:List Int}(h:RS m H0 hv bw bm X A all):Alls m all:=by
  obtain⟨B,c,h1,h2,h3⟩:=h
  exact h1.alls
set_option maxRecDepth 100000 in
theorem walk_come_c{H0 A:Array Obj}{b:Blk}{x:Hp}{bw bm:Nat}{X:List Nat}{all:List Int}{g w:Int}(V:View H0 (some ⟨b.h,0,none⟩) (some (b,x)))(R:RS x.sp.mem H0 (some ⟨b.h,0,none⟩) bw bm X A all)(hX: ∀j∈X,j<A.size)(hw:IsWord w):
    morainelaw11_walk_come.C (some ⟨bw,0,none⟩) w g A (λ_ A'=>RS x.sp.mem H0 (some ⟨b.h,0,none⟩) bw bm X A' (comeW x.sp.mem g all w)/\ ∃S,Fr S A A'/\ ∀j∈S,j ∉ X):=by
  refine HC.via λQ hQ=>morainelaw11_walk_come.link ?_
  unfold morainelaw11_walk_come.pt
  obtain⟨B,c,K,e0,hB⟩:=R
  obtain⟨-,hp,ok⟩:=(V.ext e0).inv
  · refine⟨_,rfl,_,by rw[hat_blk K.cell];rfl,_,rfl,_,hp.hPtr,?_⟩
    refine HC.mono (card_Gen_c hp.cd hw) ?_
    rintro _ A1 ⟨rfl,e1⟩
    refine⟨_,_,rfl,?_⟩
    by_cases hc:x.sp.mem.come g w
    · rw[if_pos (by simp[hc.1,hc.2])]
      refine HC.mono (walk_of_c (o:=some (b,x)) (V.ext (e0.trans e1)) (K.ext e1) hw) ?_
      rintro _ A2 ⟨rfl,B',c',K2,f2,hB'⟩
      have z1:=e1.size
      have z0:=e0.size
      have hwk: ∀j∈wkB bw bm B',j∈wkB bw bm B\/A1.size<=j:=λj hj=>by
        simp only[wkB,List.mem_cons]at hj⊢
        rcases hj with q | q | q
        · exact .inl (.inl q)
        · exact .inl (.inr (.inl q))
        · rcases hB' j q with r | r
          · exact .inl (.inr (.inr r))
          · exact .inr r
      refine⟨_,rfl,hQ _ _ ⟨⟨B',c',?_,(e0.trans e1).fr_trans f2 (λj hj=>(hB j hj).1),λj hj=>?_⟩,wkB bw bm B,e1.fr.trans f2,λj hj=>(hB j hj).2⟩⟩
      · unfold comeW;rw[if_pos hc];exact K2
      · rcases hwk j hj with q | q
        · exact hB j q
        · exact⟨by omega,λr=>by have:=hX j r;omega⟩
    · rw[if_neg (λq=>hc (by simpa[Mem.come]using q))]
      refine hQ _ _ ⟨⟨B,c,?_,e0.trans e1,hB⟩,[],e1.fr,by simp⟩
      unfold comeW;rw[if_neg hc];exact K.ext e1
theorem seg_Read_w{H:Array Obj}{bm bs:Nat}{m:Mem}{a:Int}(h:MemAt H bm bs m)(ok:MemOK m)(ha:a<=9223372036854775807):
    seg_Mem_Read.C (some ⟨bm,0,none⟩) a H (λv H'=>v=.tuple #[.int .u64 (m.read a),.int .i64 (if m.used a then 0 else 18)]/\H'=H):=
  HC.mono (seg_Read_c h ok ha) (by
    rintro _ _ ⟨rfl,rfl⟩
    refine⟨?_,rfl⟩
    unfold Mem.read
    split<;>rfl)
theorem IsTaken.all{m:Mem}{l:List Nat}(h:IsTaken m [] l)(ok:MemOK m){k:Int}(hk:m.has k):k.toNat∈l:=by
  refine h.perm.mem_iff.2 ?_
  unfold Mem.takenTo
  rw[List.mem_filter,List.mem_range]
  obtain⟨h1,h2,h3⟩:=hk
  have:=(ok.seg k.toNat).taken
  refine⟨by omega,?_⟩
  simp
  omega

def OlderTo(m:Mem)(g:Int)(all:List Int)(p:Int->Prop):Prop:= ∀x,m.used x->g<m.gAt x->m.strong x->p x->Due m g all (m.get x)
theorem OlderTo.mono{m:Mem}{g:Int}{all all':List Int}{p:Int->Prop}(h:OlderTo m g all p)(q:all<+:all'):OlderTo m g all' p:=λx a b c d=>(h x a b c d).mono q
set_option maxRecDepth 100000 in
theorem older_loop{Q:Array Obj->Prop}{H0 H9:Array Obj}{b:Blk}{x:Hp}{bw bm cs kk:Nat}{g i_2:Int}{tB:Option Addr}{tC:Nat}{l:List Nat}{roots:List Int}{all0:List Int}{p:Int->Prop}{ta:Addr}(hta:tB=some ta)
    (V:View H0 (some ⟨b.h,0,none⟩) (some (b,x))) (R0:RS x.sp.mem H0 (some ⟨b.h,0,none⟩) bw bm (cs::blks tB) H9 all0) (hcs:cs<H9.size) (hts: ∀j∈blks tB,j≠cs)
    (hkk:x.sp.mem.has kk/\kk<1024) (hi2:0<=i_2) (hil:i_2.toNat<l.length) (hlk:l[i_2.toNat]=kk)
    (h0:hat H9 ⟨cs,0,none⟩=some (.int .i64 (x.sp.mem.seg kk).gen)) (h1:hat H9 ⟨cs,1,none⟩=some (.int .i64 (x.sp.mem.seg kk).kind)) (h2:hat H9 ⟨cs,2,none⟩=some (.int .i64 (x.sp.mem.seg kk).n))
    (T0:Own H9 3 1 tB l.length tC (ivs (l.map λi:Nat=>(i:Int)))) (L0:Least x.sp.mem g roots all0) (O0:OlderTo x.sp.mem g all0 p)
    (hQ: ∀(A:Array Obj) (all:List Int),RS x.sp.mem H0 (some ⟨b.h,0,none⟩) bw bm (cs::blks tB) A all->Own A 3 1 tB l.length tC (ivs (l.map λi:Nat=>(i:Int)))->all0<+:all->Least x.sp.mem g roots all->OlderTo x.sp.mem g all (λa=>p a\/(a / 64).toNat=kk)->Q A):
     ∃(I43:Int->Array Obj->Prop) (m43:Int->Array Obj->Nat),I43 0 H9/\ ∀(k:Int) (H10:Array Obj),I43 k H10->
     ∃x_9:Int,hat H10 ((Addr.mk cs 0 none).add 2)=some (.int .i64 x_9)/\
     if k<x_9 then(
      ∃x_10:Int,hat H10 (Addr.mk cs 0 none)=some (.int .i64 x_10)/\
      if x_10>g then(
       ∃x_11:Int,hat H10 ((Addr.mk cs 0 none).add 1)=some (.int .i64 x_11)/\
       if x_11=3 then(
        Q H10)
       else
       ∃x_12:Option Addr,hat H10 ⟨b.h,0,none⟩=some (.pointer x_12)/\
       ∃x12A:Addr,x_12=some x12A/\
       ∃x_13:Option Addr,hat H10 x12A=some (.pointer x_13)/\
       ∃x13A:Addr,x_13=some x13A/\
       ∃x_14:Option Addr,hat H10 x13A=some (.pointer x_14)/\
       ((0:Int)<=i_2/\i_2< (l.length:Int))/\
       ∃x_15:Int,hat H10 (ta.add (Int.toNat i_2*1))=some (.int .i64 x_15)/\
       seg_Mem_Read.C x_14 (IntKind.wrap .i64 ((IntKind.wrap .i64 (64*x_15))+k)) H10 (λv_4 H11=> ∃ra:Int,∃rb_2:Int,v_4=.tuple #[.int .u64 ra,.int .i64 rb_2]/\
        ∃x_16:Int,hat H11 ((Addr.mk cs 0 none).add 1)=some (.int .i64 x_16)/\
        if((x_16 !=1) || ((iand .i64 k 1)==1))=true then(
         morainelaw11_walk_come.C (some (Addr.mk bw 0 none)) ra g H11 (λ_ H12=>
          (I43 (IntKind.wrap .i64 (k+1)) H12/\m43 (IntKind.wrap .i64 (k+1)) H12<m43 k H10)))
        else
        (I43 (IntKind.wrap .i64 (k+1)) H11/\m43 (IntKind.wrap .i64 (k+1)) H11<m43 k H10)))
      else
      Q H10)
     else
     Q H10:=by
  have ok:=V.inv.2.2
  have hn64:=(ok.mem.seg kk).n
  have hkn:((kk:Nat):Int).toNat=kk:=by omega
  refine⟨λk A=>(0<=k/\k<=(x.sp.mem.seg kk).n)/\ ∃all,RS x.sp.mem H0 (some ⟨b.h,0,none⟩) bw bm (cs::blks tB) A all/\Own A 3 1 tB l.length tC (ivs (l.map λi:Nat=>(i:Int)))/\all0<+:all/\Least x.sp.mem g roots all/\OlderTo x.sp.mem g all (λa=>p a\/((a / 64).toNat=kk/\a % 64<k))/\
      cs<A.size/\hat A ⟨cs,0,none⟩=some (.int .i64 (x.sp.mem.seg kk).gen)/\hat A ⟨cs,1,none⟩=some (.int .i64 (x.sp.mem.seg kk).kind)/\hat A ⟨cs,2,none⟩=some (.int .i64 (x.sp.mem.seg kk).n),λk _=>(100-k).toNat,
    ⟨⟨by omega,hn64.1⟩,all0,R0,T0,List.prefix_refl _,L0,λa q1 q2 q3 q4=>O0 a q1 q2 q3 (q4.elim id (λq=>by have:=q.2;omega)),hcs,h0,h1,h2⟩,?_⟩
  rintro k A ⟨hk,all,R,T,hpre,L,O,hcA,g0,g1,g2⟩
  refine⟨_,by rw[addr_add_mk];exact g2,?_⟩
  by_cases hkn2:k< (x.sp.mem.seg kk).n
  case neg=>
    rw[if_neg hkn2]
    refine hQ A all R T hpre L (λa q1 q2 q3 q4=>O a q1 q2 q3 (q4.imp id (λq=>⟨q,?_⟩)))
    have:=q1.2.2
    rw[q]at this;omega
  rw[if_pos hkn2]
  refine⟨_,g0,?_⟩
  by_cases hgg:(x.sp.mem.seg kk).gen>g
  case neg=>
    rw[if_neg hgg]
    refine hQ A all R T hpre L (λa q1 q2 q3 q4=>?_)
    rcases q4 with q | q
    · exact O a q1 q2 q3 (.inl q)
    · exact absurd (show g< (x.sp.mem.seg kk).gen by rw[<-q];exact q2) hgg
  rw[if_pos hgg]
  refine⟨_,by rw[addr_add_mk];exact g1,?_⟩
  by_cases hk3:(x.sp.mem.seg kk).kind=3
  · rw[if_pos hk3]
    refine hQ A all R T hpre L (λa q1 q2 q3 q4=>?_)
    rcases q4 with q | q
    · exact O a q1 q2 q3 (.inl q)
    · exact absurd (show(x.sp.mem.seg (a / 64).toNat).kind=3 by rw[q];exact hk3) q3.1
  rw[if_neg hk3]
  obtain⟨-,hp,-⟩:=(V.ext R.e).inv
  obtain⟨ta',hta',hat15⟩:=ivs_at T hil
  obtain rfl:ta'=ta:=by rw[hta]at hta';cases hta';rfl
  rw[hlk]at hat15
  refine⟨_,hp.hPtr,_,rfl,_,hp.cd.cPtr,_,rfl,_,hp.cd.sp.memPtr,⟨hi2,by omega⟩,_,hat15,?_⟩
  have hkk2:=hkk.2
  rw[w64 (n:=64*((kk:Nat):Int)) (by omega),w64 (n:=64*((kk:Nat):Int)+k) (by omega),w64 (n:=k+1) (by omega)]
  refine HC.mono (seg_Read_w hp.cd.sp.mem ok.mem (by omega)) ?_
  have hd:(100-(k+1)).toNat< (100-k).toNat:=by omega
  rintro _ A1 ⟨rfl,rfl⟩
  have ea:(64*((kk:Nat):Int)+k) / 64=kk:=by omega
  have em:(64*((kk:Nat):Int)+k) % 64=k:=by omega
  have hu:x.sp.mem.used (64*((kk:Nat):Int)+k):=⟨by omega,by rw[ea];exact hkk.1,by rw[ea,em,hkn];exact hkn2⟩
  have hrd:x.sp.mem.read (64*((kk:Nat):Int)+k)=x.sp.mem.get (64*((kk:Nat):Int)+k):=by unfold Mem.read;rw[if_pos hu]
  refine⟨_,_,rfl,_,by rw[addr_add_mk];exact g1,?_⟩
  have hst:((((x.sp.mem.seg kk).kind !=1) || ((iand .i64 k 1)==1))=true) ↔ x.sp.mem.strong (64*((kk:Nat):Int)+k):=by
    rw[iand_one (by omega)]
    unfold Mem.strong Mem.kAt
    rw[ea,hkn,show(64*((kk:Nat):Int)+k) % 2=k % 2 by omega]
    simp[hk3]
  have hpar: ∀a,x.sp.mem.used a->(a / 64).toNat=kk->a % 64<k+1->a % 64<k\/a=64*((kk:Nat):Int)+k:=λa q1 q2 q3=>by
    have:=q1.1;omega
  by_cases hs:x.sp.mem.strong (64*((kk:Nat):Int)+k)
  · rw[if_pos (hst.2 hs)]
    have hw:IsWord (x.sp.mem.read (64*((kk:Nat):Int)+k)):=Mem.read_word ok.mem _
    refine HC.mono (walk_come_c V R (λj hj=>?_) hw) ?_
    · rcases List.mem_cons.1 hj with q | q
      · rw[q];exact hcA
      · exact T.lt j q
    rintro _ A2 ⟨R2,S,f2,hS⟩
    have cS:cs ∉ S:=λq=>hS cs q (by simp)
    have hat2: ∀{i:Nat} {v:Value},hat A1 ⟨cs,i,none⟩=some v->hat A2 ⟨cs,i,none⟩=some v:=λ{i v} h=>f2.hat cS h
    have gz:=f2.size
    refine⟨⟨⟨by omega,by omega⟩,_,R2,T.keep f2 (λj hj q=>hS j q (by simp[hj])),hpre.trans (come_pre _ _ _ _),L.come (λP c1 c2 c3=>?_),λa q1 q2 q3 q4=>?_,by omega,hat2 g0,hat2 g1,hat2 g2⟩,hd⟩
    · rw[hrd]at c2 c3⊢
      exact c1.older _ hu (by show g< (x.sp.mem.seg ((64*((kk:Nat):Int)+k) / 64).toNat).gen;rw[ea,hkn];exact hgg) hs c2 c3
    · rcases q4 with q | ⟨q,r⟩
      · exact(O a q1 q2 q3 (.inl q)).mono (come_pre _ _ _ _)
      · rcases hpar a q1 q r with t | t
        · exact(O a q1 q2 q3 (.inr ⟨q,t⟩)).mono (come_pre _ _ _ _)
        · rw[t,<-hrd];exact come_due _ _ _ _
  · rw[if_neg (λq=>hs (hst.1 q))]
    refine⟨⟨⟨by omega,by omega⟩,_,R,T,hpre,L,λa q1 q2 q3 q4=>?_,hcA,g0,g1,g2⟩,hd⟩
    rcases q4 with q | ⟨q,r⟩
    · exact O a q1 q2 q3 (.inl q)
    · rcases hpar a q1 q r with t | t
      · exact O a q1 q2 q3 (.inr ⟨q,t⟩)
      · exact absurd (t▸q3) hs

theorem src_wv{H:Array Obj}{p:Option Addr}{ws:List Int}(h:SrcAt H p (wvs ws)){i:Nat}(hi:i<ws.length): ∃a,p=some a/\hat H (a.add (i*1))=some (.int .u64 ws[i]):=by
  cases p with
  | none=>rw[SrcAt_none]at h;simp[wvs]at h;subst h;simp at hi
  | some a=>
    refine⟨a,rfl,?_⟩
    have:=rowAt_hat (show RowAt H a 0 (wvs ws)from h) i (.int .u64 ws[i]) (by simp[wvs,hi])
    rw[Nat.zero_add]at this;rw[Nat.mul_one];exact this
set_option maxRecDepth 100000 in
theorem kids_loop{Q:Array Obj->Prop}{H0 H20:Array Obj}{b:Blk}{x:Hp}{bw bm:Nat}{g w:Int}{roots:List Int}{all0:List Int}
    (V:View H0 (some ⟨b.h,0,none⟩) (some (b,x))) (R0:RS x.sp.mem H0 (some ⟨b.h,0,none⟩) bw bm [] H20 all0) (hw:IsWord w) (hsz:x.sp.mem.sizeOf w≠0) (hin:w∈all0) (L0:Least x.sp.mem g roots all0)
    (hQ: ∀(A:Array Obj) (all:List Int),RS x.sp.mem H0 (some ⟨b.h,0,none⟩) bw bm [] A all->all0<+:all->Least x.sp.mem g roots all->(∀k:Int,0<=k->k<x.sp.mem.sizeOf w->x.sp.mem.kid w k->Due x.sp.mem g all (x.sp.mem.read (w / 8+k)))->Q A):
    ∃(I83:Int->Array Obj->Prop) (m83:Int->Array Obj->Nat),I83 0 H20/\ ∀(k_3:Int) (H21:Array Obj),I83 k_3 H21->
    obj_Heap_Size.C (some ⟨b.h,0,none⟩) w H21 (λv_10 H22=> ∃x_27:Int,v_10=.int .i64 x_27/\
     if k_3<x_27 then(
      obj_Heap_Type.C (some ⟨b.h,0,none⟩) w H22 (λv_11 H23=> ∃x_28:Int,v_11=.int .i64 x_28/\
       if x_28=2 then(
        Q H23)
       else
       obj_Heap_Type.C (some ⟨b.h,0,none⟩) w H23 (λv_12 H24=> ∃x_29:Int,v_12=.int .i64 x_29/\
        if x_29=3 then(
         Q H24)
        else
        ∃x_30:Option Addr,hat H24 ⟨b.h,0,none⟩=some (.pointer x_30)/\
        ∃x30A:Addr,x_30=some x30A/\
        ∃x_31:Option Addr,hat H24 x30A=some (.pointer x_31)/\
        ∃x31A:Addr,x_31=some x31A/\
        ∃x_32:Option Addr,hat H24 x31A=some (.pointer x_32)/\
        seg_Mem_Read.C x_32 (IntKind.wrap .i64 ((IntKind.wrap .i64 (ishr .u64 w 3))+k_3)) H24 (λv_13 H25=> ∃ra_3:Int,∃rb_5:Int,v_13=.tuple #[.int .u64 ra_3,.int .i64 rb_5]/\
         if(((iand .u64 w 7) !=2) || (k_3==1))=true then(
          morainelaw11_walk_come.C (some (Addr.mk bw 0 none)) ra_3 g H25 (λ_ H26=>
           (I83 (IntKind.wrap .i64 (k_3+1)) H26/\m83 (IntKind.wrap .i64 (k_3+1)) H26<m83 k_3 H21)))
         else
         (I83 (IntKind.wrap .i64 (k_3+1)) H25/\m83 (IntKind.wrap .i64 (k_3+1)) H25<m83 k_3 H21)))))
     else
     Q H22):=by
  have ok:=V.inv.2.2
  have hsr:=sizeOf_rng x.sp.mem w
  have had:=size_addr hsz
  have hmo:mof (some (b,x))=x.sp.mem:=rfl
  refine⟨λk A=>(0<=k/\k<=x.sp.mem.sizeOf w)/\ ∃all,RS x.sp.mem H0 (some ⟨b.h,0,none⟩) bw bm [] A all/\all0<+:all/\Least x.sp.mem g roots all/\ ∀k':Int,0<=k'->k'<k->x.sp.mem.kid w k'->Due x.sp.mem g all (x.sp.mem.read (w / 8+k')),λk _=>(100-k).toNat,
    ⟨⟨by omega,hsr.1⟩,all0,R0,List.prefix_refl _,L0,λk' h1 h2=>by omega⟩,?_⟩
  rintro k A ⟨hk,all,R,hpre,L,D⟩
  refine HC.mono (obj_Size_c (V.ext R.e) hw) ?_
  rintro _ A2 ⟨rfl,e2⟩
  rw[hmo]
  refine⟨_,rfl,?_⟩
  have R2:=R.ext e2
  by_cases hlt:k<x.sp.mem.sizeOf w
  case neg=>
    rw[if_neg hlt]
    exact hQ A2 all R2 hpre L (λk' h1 h2=>D k' h1 (by omega))
  rw[if_pos hlt]
  have raw: ∀{A:Array Obj},RS x.sp.mem H0 (some ⟨b.h,0,none⟩) bw bm [] A all->x.sp.mem.rawT w->Q A:=λ{A} R hr=>hQ A all R hpre L (λk' h1 h2 h3=>absurd hr h3.1)
  refine HC.mono (obj_Type_c (V.ext R2.e) hw) ?_
  rintro _ A3 ⟨rfl,e3⟩
  rw[hmo]
  refine⟨_,rfl,?_⟩
  have R3:=R2.ext e3
  by_cases h2:x.sp.mem.typ w=2
  · rw[if_pos h2];exact raw R3 (.inl h2)
  rw[if_neg h2]
  refine HC.mono (obj_Type_c (V.ext R3.e) hw) ?_
  rintro _ A4 ⟨rfl,e4⟩
  rw[hmo]
  refine⟨_,rfl,?_⟩
  have R4:=R3.ext e4
  by_cases h3:x.sp.mem.typ w=3
  · rw[if_pos h3];exact raw R4 (.inr h3)
  rw[if_neg h3]
  have hnr: ¬x.sp.mem.rawT w:=λq=>q.elim h2 h3
  obtain⟨-,hp,-⟩:=(V.ext R4.e).inv
  refine⟨_,hp.hPtr,_,rfl,_,hp.cd.cPtr,_,rfl,_,hp.cd.sp.memPtr,?_⟩
  have hw0:=hw.1
  rw[ishr_pos 3 3 rfl (by decide),show(2:Int) ^ 3=8 by decide]
  have hadl:=had.2
  rw[w64 (n:=w / 8) (by omega),w64 (n:=w / 8+k) (by omega),w64 (n:=k+1) (by omega)]
  have hd:(100-(k+1)).toNat< (100-k).toNat:=by omega
  refine HC.mono (seg_Read_w hp.cd.sp.mem ok.mem (by omega)) ?_
  rintro _ A5 ⟨rfl,rfl⟩
  refine⟨_,_,rfl,?_⟩
  have hmask:iand .u64 w 7=w % 8:=iand_mask 3 (by decide) hw 7 (by decide)
  rw[hmask]
  have hst:(((w % 8 !=2) || (k==1))=true) ↔ x.sp.mem.kid w k:=by
    unfold Mem.kid
    simp[hnr]
  have hpar: ∀k':Int,k'<k+1->k'<k\/k'=k:=λk' q=>by omega
  by_cases hs:x.sp.mem.kid w k
  · rw[if_pos (hst.2 hs)]
    refine HC.mono (walk_come_c V R4 (λj hj=>by simp at hj) (Mem.read_word ok.mem _)) ?_
    rintro _ A6 ⟨R6,S,f6,hS⟩
    refine⟨⟨⟨by omega,by omega⟩,_,R6,hpre.trans (come_pre _ _ _ _),L.come (λP c1 c2 c3=>c1.kid w (L P c1 w (hpre.subset hin)) hw hsz k hk.1 hlt hs c2 c3),λk' q1 q2 q3=>?_⟩,hd⟩
    rcases hpar k' q2 with t | t
    · exact(D k' q1 t q3).mono (come_pre _ _ _ _)
    · rw[t];exact come_due _ _ _ _
  · rw[if_neg (λq=>hs (hst.1 q))]
    refine⟨⟨⟨by omega,by omega⟩,_,R4,hpre,L,λk' q1 q2 q3=>?_⟩,hd⟩
    rcases hpar k' q2 with t | t
    · exact D k' q1 t q3
    · exact absurd (t▸q3) hs
theorem hat_lt3{H:Array Obj}{a:Addr}{v:Value}(h:hat H a=some v):a.block<H.size:=by
  unfold hat at h
  by_cases hb:a.block<H.size
  · exact hb
  · rw[Array.getElem?_eq_none (by omega)]at h;cases h
theorem pre_take{a b:List Int}(p:a<+:b){i:Nat}(hi:i<=a.length):b.take i=a.take i:=by
  obtain⟨c,rfl⟩:=p
  rw[List.take_append_of_le_length hi]
set_option maxRecDepth 100000 in
theorem reached_c{H:Array Obj}{b:Blk}{x:Hp}{rB:Option Addr}{rN rC:Nat}{g:Int}{roots:List Int}(V:View H (some ⟨b.h,0,none⟩) (some (b,x)))(hs:SrcAt H rB (wvs roots))(hn:rN=roots.length)(hl:rN<=100000)(hw: ∀w∈roots,IsWord w):
    morainelaw11_reached.C (some ⟨b.h,0,none⟩) rB rN rC g H (λv H'=> ∃all,Reached x.sp.mem g roots all/\v=.int .i64 ((all.map x.sp.mem.sizeOf).sum)/\Ext H H'):=by
  refine HC.via λR hR=>morainelaw11_reached.link ?_
  unfold morainelaw11_reached.pt
  subst hn
  have ok:=V.inv.2.2
  have hmo:mof (some (b,x))=x.sp.mem:=rfl
  have hlim:=ok.mem.lim
  intro bm H1 hbm hH1 bw H2 hbw hH2
  have e1:Ext H H1:=Ext.push' hH1
  have e2:Ext H1 H2:=Ext.push' hH2
  have z1:H1.size=H.size+1:=by rw[hH1];simp
  have z2:H2.size=H1.size+1:=by rw[hH2];simp
  have K2:WkAt x.sp.mem H2 (some ⟨b.h,0,none⟩) bw bm none 0 []:=⟨push_get hbw hH2,⟨_,_,[],e2.get (push_get hbm hH1),rfl,λw=>by simp[mget]⟩,own_nil,⟨by omega,λj hj=>by simp at hj⟩,Alls.nil _⟩
  have R2:RS x.sp.mem H (some ⟨b.h,0,none⟩) bw bm [] H2 []:=⟨none,0,K2,e1.trans e2,λj hj=>⟨by simp[wkB]at hj;omega,by simp⟩⟩
  refine⟨λi A=>(0<=i/\i<=roots.length)/\ ∃all,RS x.sp.mem H (some ⟨b.h,0,none⟩) bw bm [] A all/\Least x.sp.mem g roots all/\ ∀w∈roots.take i.toNat,Due x.sp.mem g all w,λi _=>(roots.length-i).toNat,
    ⟨⟨by omega,by omega⟩,[],R2,λP _ w h=>by simp at h,λw h=>by simp at h⟩,?_⟩
  rintro i A ⟨hi,all,Ra,La,Da⟩
  by_cases hlt:i< (roots.length:Int)
  · rw[if_pos hlt]
    have hil:i.toNat<roots.length:=by omega
    obtain⟨a,ha,hata⟩:=src_wv (hs.ext Ra.e) hil
    refine⟨a,ha,⟨hi.1,hlt⟩,_,hata,?_⟩
    have hd:((roots.length:Int)-(i+1)).toNat< ((roots.length:Int)-i).toNat:=by omega
    have hmem:=List.getElem_mem hil
    rw[w64 (n:=i+1) (by omega)]
    refine HC.mono (walk_come_c V Ra (λj hj=>by simp at hj) (hw _ hmem)) ?_
    rintro _ A2 ⟨R3,-⟩
    refine⟨⟨⟨by omega,by omega⟩,_,R3,La.come (λP c1 c2 c3=>c1.root _ hmem c2 c3),λw hwm=>?_⟩,hd⟩
    rw[show(i+1).toNat=i.toNat+1 by omega,List.take_succ_eq_append_getElem hil]at hwm
    rcases List.mem_append.1 hwm with q | q
    · exact(Da w q).mono (come_pre _ _ _ _)
    · simp at q;rw[q];exact come_due _ _ _ _
  rw[if_neg hlt]
  rw[List.take_of_length_le (by omega)]at Da
  obtain⟨-,hp,-⟩:=(V.ext Ra.e).inv
  refine⟨_,rfl,_,hp.hPtr,_,rfl,_,hp.cd.cPtr,_,rfl,_,hp.cd.sp.memPtr,?_⟩
  refine HC.mono (seg_Taken_c (gs:=[]) hp.cd.sp.mem ok.mem (by rw[SrcAt_none];rfl) rfl (by decide)) ?_
  rintro _ H5 ⟨tB,tC,l,rfl,hl2,hol,hfl,e5⟩
  refine⟨_,_,_,rfl,?_⟩
  have hllen:=hl2.len
  refine⟨λi A=>(0<=i/\i<=l.length)/\ ∃all,RS x.sp.mem H (some ⟨b.h,0,none⟩) bw bm (blks tB) A all/\Own A 3 1 tB l.length tC (ivs (l.map λi:Nat=>(i:Int)))/\Least x.sp.mem g roots all/\(∀w∈roots,Due x.sp.mem g all w)/\OlderTo x.sp.mem g all (λa=>(a / 64).toNat∈l.take i.toNat),λi _=>(l.length-i).toNat,
    ⟨⟨by omega,by omega⟩,all,(Ra.grow (λj hj=> .inr (hfl j hj))).ext e5,hol,La,Da,λa q1 q2 q3 q4=>by simp at q4⟩,?_⟩
  rintro i2 H6 ⟨hi2,all2,R6,T6,L6,D6,O6⟩
  by_cases hlt2:i2< (l.length:Int)
  · rw[if_pos hlt2]
    have hil:i2.toNat<l.length:=by omega
    obtain⟨ta,hta,hatt⟩:=ivs_at T6 hil
    obtain⟨khas,klim,kpos,_⟩:=hl2.has (List.getElem_mem hil)
    have htk:l.take (i2+1).toNat=l.take i2.toNat++[l[i2.toNat]]:=by rw[show(i2+1).toNat=i2.toNat+1 by omega,List.take_succ_eq_append_getElem hil]
    generalize hk:l[i2.toNat]=k at*
    have hd:((l.length:Int)-(i2+1)).toNat< ((l.length:Int)-i2).toNat:=by omega
    obtain⟨-,hp6,-⟩:=(V.ext R6.e).inv
    have hsg:x.sp.mem.segOr k=x.sp.mem.seg k:=by unfold Mem.segOr;rw[if_pos khas,show((k:Nat):Int).toNat=k by omega]
    rw[w64 (n:=i2+1) (by omega)]
    refine⟨_,hp6.hPtr,_,rfl,_,hp6.cd.cPtr,_,rfl,_,hp6.cd.sp.memPtr,ta,hta,⟨hi2.1,hlt2⟩,_,hatt,?_⟩
    have fin: ∀(c:Nat),H6.size<=c-> ∀(A:Array Obj) (al:List Int),RS x.sp.mem H (some ⟨b.h,0,none⟩) bw bm (c::blks tB) A al->Own A 3 1 tB l.length tC (ivs (l.map λi:Nat=>(i:Int)))->all2<+:al->Least x.sp.mem g roots al->OlderTo x.sp.mem g al (λa=>(a / 64).toNat∈l.take i2.toNat\/(a / 64).toNat=k)->
        (((0<=i2+1/\i2+1<=l.length)/\ ∃all,RS x.sp.mem H (some ⟨b.h,0,none⟩) bw bm (blks tB) A all/\Own A 3 1 tB l.length tC (ivs (l.map λi:Nat=>(i:Int)))/\Least x.sp.mem g roots all/\(∀w∈roots,Due x.sp.mem g all w)/\OlderTo x.sp.mem g all (λa=>(a / 64).toNat∈l.take (i2+1).toNat))/\((l.length:Int)-(i2+1)).toNat< ((l.length:Int)-i2).toNat):=λc hc A al r1 r2 r3 r4 r5=>
      ⟨⟨⟨by omega,by omega⟩,al,r1.grow (λj hj=> .inl (by simp[hj])),r2,r4,λw hwm=>(D6 w hwm).mono r3,λa q1 q2 q3 q4=>r5 a q1 q2 q3 (by rw[htk]at q4;rcases List.mem_append.1 q4 with t | t;exact .inl t;simp at t;exact .inr t)⟩,hd⟩
    have tlt:=T6.lt
    constructor
    · refine HC.mono (seg_Seg_c' hp6.cd.sp.mem) ?_
      rintro _ H7 ⟨rfl,e7⟩
      rw[hsg]
      refine⟨_,_,_,_,_,_,_,_,rfl,λc8 H8 hc8 hH8=>?_⟩
      obtain⟨hcp,hs9⟩:=head_slot (x.sp.mem.seg k) hc8 hH8
      refine⟨hcp,λH9 hH9=>?_⟩
      obtain⟨e9,g0,g1,g2,_⟩:=hs9 H9 hH9
      have e69:=e7.trans e9
      have z7:=e7.size
      have z9:c8<H9.size:=hat_lt3 g0
      refine older_loop (p:=λa=>(a / 64).toNat∈l.take i2.toNat) (roots:=roots) hta V ((R6.grow (Y:=c8::blks tB) (λj hj=>?_)).ext e69) z9 (λj hj=>?_) ⟨khas,by omega⟩ hi2.1 hil hk g0 g1 g2 (T6.ext e69) L6 O6 (fin c8 (by omega))
      · rcases List.mem_cons.1 hj with q | q
        · exact .inr (by omega)
        · exact .inl q
      · have:=tlt j hj;omega
    · intro c9 H9 hc9 hH9
      have e9:Ext H6 H9:=Ext.push' hH9
      have z9:H9.size=H6.size+1:=by rw[hH9];simp
      refine⟨row1 (e9.hat hp6.hPtr),row1 (e9.hat hp6.cd.cPtr),row1 (e9.hat hp6.cd.sp.memPtr),⟨by show hat H9 ((ta.add (i2.toNat*1)).add 0)=_;unfold Addr.add at hatt⊢;rw[if_pos rfl];exact e9.hat hatt,trivial⟩,?_⟩
      obtain⟨-,hp9,-⟩:=(V.ext (R6.e.trans e9)).inv
      refine HC.mono (seg_Seg_c' hp9.cd.sp.mem) ?_
      rintro _ H10 ⟨rfl,e10⟩
      rw[hsg]
      obtain⟨hcA,hsA⟩:=boxed (vs:=[.int .i64 (x.sp.mem.seg k).gen,.int .i64 (x.sp.mem.seg k).kind,.int .i64 (x.sp.mem.seg k).n,.int .i64 ((x.sp.mem.seg k).cards 0),.int .i64 ((x.sp.mem.seg k).cards 1),.int .i64 ((x.sp.mem.seg k).cards 2),.int .i64 ((x.sp.mem.seg k).cards 3)]) (H1:=H10) (e10.get (push_get hc9 hH9)) rfl rfl
      refine⟨_,_,_,_,_,_,_,_,rfl,hcA,λH11 hH11=>?_⟩
      obtain⟨hr11,hE11⟩:=hsA H11 hH11
      have e11:Ext H6 H11:=hE11 H6 (e9.trans e10) (by omega)
      have z10:=e10.size
      have z11:c9<H11.size:=hat_lt3 hr11.1
      refine older_loop (p:=λa=>(a / 64).toNat∈l.take i2.toNat) (roots:=roots) hta V ((R6.grow (Y:=c9::blks tB) (λj hj=>?_)).ext e11) z11 (λj hj=>?_) ⟨khas,by omega⟩ hi2.1 hil hk hr11.1 hr11.2.1 hr11.2.2.1 (T6.ext e11) L6 O6 (fin c9 (by omega))
      · rcases List.mem_cons.1 hj with q | q
        · exact .inr (by omega)
        · exact .inl q
      · have:=tlt j hj;omega
  rw[if_neg hlt2]
  rw[List.take_of_length_le (by omega)]at O6
  have O6':OlderTo x.sp.mem g all2 (λ_=>True):=λa q1 q2 q3 _=>O6 a q1 q2 q3 (hl2.all ok.mem q1.2.1)
  refine⟨λsum i A=> ∃all,RS x.sp.mem H (some ⟨b.h,0,none⟩) bw bm [] A all/\Least x.sp.mem g roots all/\(∀w∈roots,Due x.sp.mem g all w)/\OlderTo x.sp.mem g all (λ_=>True)/\(0<=i/\i<=all.length)/\sum=((all.take i.toNat).map x.sp.mem.sizeOf).sum/\ ∀w∈all.take i.toNat,∀k:Int,0<=k->k<x.sp.mem.sizeOf w->x.sp.mem.kid w k->Due x.sp.mem g all (x.sp.mem.read (w / 8+k)),λ_ i _=>(600000-i).toNat,
    ⟨all2,R6.grow (λj hj=>by simp at hj),L6,D6,O6',⟨by omega,by omega⟩,by simp,λw h=>by simp at h⟩,?_⟩
  rintro sum i3 H19 ⟨all3,R3,L3,D3,O3,hi3,rfl,K3⟩
  have hal:=R3.alls.len
  obtain⟨B,c,K,eK,hB⟩:=id R3
  refine⟨_,_,_,by rw[addr_add_mk,hat_blk K.cell];rfl,?_⟩
  by_cases hlt3:i3< (all3.length:Int)
  · rw[if_pos hlt3]
    have hil:i3.toNat<all3.length:=by omega
    obtain⟨ba,hba,hatb⟩:=src_wv K.own.src hil
    refine⟨_,_,_,by rw[addr_add_mk,hat_blk K.cell];rfl,ba,hba,⟨hi3.1,hlt3⟩,_,hatb,?_⟩
    have hmem:=List.getElem_mem hil
    have htk:all3.take (i3.toNat+1)=all3.take i3.toNat++[all3[i3.toNat]]:=List.take_succ_eq_append_getElem hil
    obtain⟨hgw,hgs⟩:=R3.alls.good _ hmem
    generalize hwd:all3[i3.toNat]=w at*
    refine HC.mono (obj_Size_c (V.ext R3.e) hgw) ?_
    rintro _ H20 ⟨rfl,e20⟩
    rw[hmo]
    refine⟨_,rfl,?_⟩
    have hd:(600000-(i3+1)).toNat< (600000-i3).toNat:=by omega
    have hss:=sum_sizes x.sp.mem (all3.take i3.toNat)
    have hsl:(all3.take i3.toNat).length=i3.toNat:=by rw[List.length_take];omega
    have hsr:=sizeOf_rng x.sp.mem w
    rw[w64 (n:=i3+1) (by omega),w64 (n:=((all3.take i3.toNat).map x.sp.mem.sizeOf).sum+x.sp.mem.sizeOf w) (by omega)]
    refine kids_loop (roots:=roots) V (R3.ext e20) hgw hgs hmem L3 ?_
    intro A al RA hpre LA DA
    have hlen:=hpre.length_le
    refine⟨⟨al,RA,LA,λv hv=>(D3 v hv).mono hpre,O3.mono hpre,⟨by omega,by omega⟩,?_,λv hv k q1 q2 q3=>?_⟩,hd⟩
    · rw[show(i3+1).toNat=i3.toNat+1 by omega,pre_take hpre (by omega),htk];simp
    · rw[show(i3+1).toNat=i3.toNat+1 by omega,pre_take hpre (by omega),htk]at hv
      rcases List.mem_append.1 hv with t | t
      · exact(K3 v t k q1 q2 q3).mono hpre
      · simp at t;subst t;exact DA k q1 q2 q3
  · rw[if_neg hlt3]
    rw[List.take_of_length_le (by omega)]at K3⊢
    exact hR _ _ ⟨all3,⟨R3.alls,⟨λw hwm=>D3 w hwm,λa q1 q2 q3=>O3 a q1 q2 q3 trivial,λw hwm _ _ k q1 q2 q3=>K3 w hwm k q1 q2 q3⟩,L3⟩,rfl,R3.e⟩
end Go.Proofs.YtdoghjgbhefphaaGreat
