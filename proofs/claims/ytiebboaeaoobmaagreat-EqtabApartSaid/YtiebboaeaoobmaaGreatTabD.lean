/-
 Contracts of package eqtab: what a table's words are, what goes over the pairs of a list. Proves nothing of any one statement.
-/
import Derived.Test.YtiebboaeaoobmaaGreatTabB
import Derived.Test.YtiebboaeaoobmaaGreatTabC
import Derived.Test.YtiebboaeaoobmaaGreatText
import Derived.Test.YtiebboaeaoobmaaGreatFeqtab
set_option linter.unusedVariables false
set_option linter.unusedSimpArgs false
namespace Go.Proofs.YtiebboaeaoobmaaGreat
open Go

theorem PF.upd_upd(f:PF)(w:Int)(p q:Int×Int):(f.upd w p).upd w q=f.upd w q:=by
 funext u
 unfold PF.upd
 split<;>rfl
theorem TF.upd_upd(f:TF)(w:Int)(p q:Int×List Int):(f.upd w p).upd w q=f.upd w q:=by
 funext u
 unfold TF.upd
 split<;>rfl
theorem rowO{H:zV}{c o:Nat}{v:Value}(h:hat H ⟨c,o,none⟩=some v):RowAt H ⟨c,o,none⟩ 0 [v]:=⟨by rw[addr_add_mk];exact h,trivial⟩
theorem setBlk_at{H:zV}{i:Nat}{o o':Obj}(h:H[i]?=some o):(setBlk H i o')[i]?=some o':=setBlk_get (lt_size h)
theorem fix_c{H:zV}{n:Int}(h:0<=n/\n<1152921504606846976):eqtab_fix.C n H (λv H'=>v=.int .u64 (8*n)/\Ext H H'):=by
 refine HC.via λR hR=>eqtab_fix.link ?_
 unfold eqtab_fix.pt
 refine HC.mono (word_Fix_c (by omega)) ?_
 rintro _ H1 ⟨rfl,e1⟩
 rw[if_pos (by omega)]
 have e:fixW n=8*n:=by unfold fixW;omega
 rw[e]
 exact⟨_,_,rfl,hR _ _ ⟨rfl,e1⟩⟩
theorem index_c{H:zV}{k:Int}(hk:IsWord k):eqtab_index.C k H (λv H'=>v=.int .i64 (idxK k:Nat)/\H'=H):=by
 refine HC.via λR hR=>eqtab_index.link ?_
 unfold eqtab_index.pt zY
 have h0:=hk.1
 have h1:=hk.2
 rw[ishr_pos 3 3 rfl (by decide),show(2:Int) ^ 3=8 by decide,Int.tmod_eq_emod_of_nonneg (by omega),w64 (by omega)]
 refine hR _ _ ⟨?_,rfl⟩
 unfold idxK
 rw[show(((k / 8 % 31).toNat:Nat):Int)=k / 8 % 31 by omega]
section
variable {J:Sp->(Int->Prop)->Prop} {H0 H:zV} {b:Blk} {x:Hp} {G:Int->Prop} {f:PF} {th:TF}
theorem open_c(S:HS J H0 H b x G f th){t:Int}{fs:List Int}(ht:th t=some (11,fs))(hl:fs.length=4):
  eqtab_open.C (some ⟨b.h,0,none⟩) t H (λv H'=>v=.tuple #[.agg #[.pointer (some ⟨b.h,0,none⟩),.int .u64 t],.int .i64 0]/\Ext H H'):=by
 refine HC.via λR hR=>eqtab_open.link ?_
 unfold eqtab_open.pt
 intro c H1 hc hH1
 have e1:Ext H H1:=Ext.push' hH1
 have g1:=push_get hc hH1
 rw[onPtr_some]
 have T:=S.pic.ths t 11 fs ht
 have hmo:mof (some (b,x))=x.sp.mem:=rfl
 refine HC.mono (obj_Type_c (S.view.ext e1) T.word) ?_
 rintro _ H2 ⟨rfl,e2⟩
 refine⟨_,rfl,?_⟩
 rw[hmo,T.typ,if_pos rfl]
 refine HC.mono (obj_Len_c (S.view.ext (e1.trans e2)) T.word) ?_
 rintro _ H3 ⟨rfl,e3⟩
 refine⟨_,rfl,?_⟩
 rw[hmo,T.len,hl,if_pos (by decide)]
 obtain⟨hcp,hs⟩:=box_set (vs:=[.pointer (some ⟨b.h,0,none⟩),.int .u64 t]) ((e2.trans e3).get g1) rfl rfl
 refine⟨hcp,λH4 hH4=>?_⟩
 obtain⟨g4,f4⟩:=hs H4 hH4
 refine⟨_,_,box_row g4,hR _ _ ⟨rfl,((e1.trans e2).trans e3).fr_trans f4 (λj hj=>by simp at hj;omega)⟩⟩
theorem tget_c(S:HS J H0 H b x G f th){t v i:Int}{fs:List Int}(ht:th t=some (11,fs))(hi:0<=i)(hv:fs[i.toNat]?=some v):
  eqtab_table_get.C (some ⟨b.h,0,none⟩) t i H (λu H'=>u=.int .u64 v/\Ext H H'):=by
 refine HC.via λR hR=>eqtab_table_get.link ?_
 unfold eqtab_table_get.pt
 intro c H1 hc hH1
 have e1:Ext H H1:=Ext.push' hH1
 have g1:=push_get hc hH1
 refine⟨_,hat_blk g1,_,by rw[box_get g1 1];rfl,?_⟩
 refine HC.mono ((S.ext e1).get_c ht hi hv) ?_
 rintro _ H2 ⟨rfl,e2⟩
 exact⟨_,_,rfl,hR _ _ ⟨rfl,e1.trans e2⟩⟩
theorem tset_c(O:JOK J)(S:HS J H0 H b x G f th){t v i:Int}{fs:List Int}(ht:th t=some (11,fs))(hi:0<=i)(hl:i.toNat<fs.length)(hv:IsWord v)(gv:G v):
  eqtab_table_set.C (some ⟨b.h,0,none⟩) t i v H (λ_ H'=> ∃x',HS J H0 H' b x' G f (th.upd t (11,fs.set i.toNat v))/\Rest 0 x x'/\Fr [b.sp,b.m,b.s] H H'):=by
 refine HC.via λR hR=>eqtab_table_set.link ?_
 unfold eqtab_table_set.pt
 intro c H1 hc hH1
 have e1:Ext H H1:=Ext.push' hH1
 have g1:=push_get hc hH1
 refine⟨_,hat_blk g1,_,by rw[box_get g1 1];rfl,?_⟩
 refine HC.mono ((S.ext e1).set_c O ht hi hl hv gv) ?_
 rintro _ H2 ⟨rfl,x',h1,h2,h3⟩
 exact⟨_,rfl,hR _ _ ⟨x',h1,h2,e1.fr.trans h3⟩⟩
theorem now_c(S:HS J H0 H b x G f th){t:Int}(he:0<=x.ep/\x.ep<1152921504606846976):
  eqtab_table_now.C (some ⟨b.h,0,none⟩) t H (λv H'=>v=.int .u64 (8*x.ep)/\Ext H H'):=by
 refine HC.via λR hR=>eqtab_table_now.link ?_
 unfold eqtab_table_now.pt zY
 intro c H1 hc hH1
 have e1:Ext H H1:=Ext.push' hH1
 have g1:=push_get hc hH1
 refine⟨_,hat_blk g1,?_⟩
 refine HC.mono (obj_Epoch_c (S.view.ext e1)) ?_
 rintro _ H2 ⟨rfl,rfl⟩
 have hE:epO (some (b,x))=x.ep:=rfl
 rw[hE]
 refine⟨_,rfl,?_⟩
 rw[w64 (n:=x.ep) (by omega)]
 refine HC.mono (fix_c he) ?_
 rintro _ H3 ⟨rfl,e3⟩
 exact⟨_,rfl,hR _ _ ⟨rfl,e1.trans e3⟩⟩
theorem bucket_c(S:HS J H0 H b x G f th){t vb v i:Int}{fs ws:List Int}(ht:th t=some (11,fs))(h2:fs[2]?=some vb)(hb:th vb=some (1,ws))(hi:0<=i)(hv:ws[i.toNat]?=some v):
  eqtab_table_bucket.C (some ⟨b.h,0,none⟩) t i H (λu H'=>u=.int .u64 v/\Ext H H'):=by
 refine HC.via λR hR=>eqtab_table_bucket.link ?_
 unfold eqtab_table_bucket.pt
 intro c H1 hc hH1
 have e1:Ext H H1:=Ext.push' hH1
 have g1:=push_get hc hH1
 refine⟨_,hat_blk g1,_,_,box_row g1,?_⟩
 refine HC.mono (tget_c (S.ext e1) ht (by decide) h2) ?_
 rintro _ H2 ⟨rfl,e2⟩
 refine⟨_,rfl,rowO (hat_blk (e2.get g1)),?_⟩
 refine HC.mono ((S.ext (e1.trans e2)).get_c hb hi hv) ?_
 rintro _ H3 ⟨rfl,e3⟩
 exact⟨_,_,rfl,hR _ _ ⟨rfl,(e1.trans e2).trans e3⟩⟩
theorem setBucket_c(O:JOK J)(S:HS J H0 H b x G f th){t vb v i:Int}{fs ws:List Int}(ht:th t=some (11,fs))(h2:fs[2]?=some vb)(hb:th vb=some (1,ws))(hi:0<=i)(hl:i.toNat<ws.length)(hv:IsWord v)(gv:G v):
  eqtab_table_setBucket.C (some ⟨b.h,0,none⟩) t i v H (λ_ H'=> ∃x',HS J H0 H' b x' G f (th.upd vb (1,ws.set i.toNat v))/\Rest 0 x x'/\Fr [b.sp,b.m,b.s] H H'):=by
 refine HC.via λR hR=>eqtab_table_setBucket.link ?_
 unfold eqtab_table_setBucket.pt
 intro c H1 hc hH1
 have e1:Ext H H1:=Ext.push' hH1
 have g1:=push_get hc hH1
 refine⟨_,hat_blk g1,_,_,box_row g1,?_⟩
 refine HC.mono (tget_c (S.ext e1) ht (by decide) h2) ?_
 rintro _ H2 ⟨rfl,e2⟩
 refine⟨_,rfl,rowO (hat_blk (e2.get g1)),?_⟩
 refine HC.mono ((S.ext (e1.trans e2)).set_c O hb hi hl hv gv) ?_
 rintro _ H3 ⟨rfl,x',q1,q2,q3⟩
 exact⟨_,rfl,hR _ _ ⟨x',q1,q2,(e1.trans e2).fr.trans q3⟩⟩
theorem key_c(S:HS J H0 H b x G f th){t p e d k v:Int}(hp:f p=some (e,d))(he:f e=some (k,v)):
  eqtab_table_key.C (some ⟨b.h,0,none⟩) t p H (λu H'=>u=.tuple #[.int .u64 e,.int .u64 k]/\Ext H H'):=by
 refine HC.via λR hR=>eqtab_table_key.link ?_
 unfold eqtab_table_key.pt
 intro c H1 hc hH1
 have e1:Ext H H1:=Ext.push' hH1
 have g1:=push_get hc hH1
 refine⟨_,hat_blk g1,?_⟩
 refine HC.mono ((S.ext e1).car_c hp) ?_
 rintro _ H2 ⟨rfl,e2⟩
 refine⟨_,_,rfl,_,hat_blk (e2.get g1),?_⟩
 refine HC.mono ((S.ext (e1.trans e2)).car_c he) ?_
 rintro _ H3 ⟨rfl,e3⟩
 exact⟨_,_,rfl,hR _ _ ⟨rfl,(e1.trans e2).trans e3⟩⟩
theorem word20:IsWord 20:=by decide
theorem JOK.nil(O:JOK J){s:Sp}(h:J s G):G 20:=O.imm h 20 (by decide) (by decide)
theorem JOK.fix(O:JOK J){s:Sp}(h:J s G)(n:Int):G (8*n):=O.imm h _ (by omega) (by omega)
theorem clear_c(O:JOK J)(S:HS J H0 H b x G f th){t p a d:Int}(hp:f p=some (a,d)):
  eqtab_table_clear.C (some ⟨b.h,0,none⟩) t p H (λ_ H'=> ∃x',HS J H0 H' b x' G (f.upd p (20,20)) th/\Rest 0 x x'/\Fr [b.sp,b.m,b.s] H H'):=by
 refine HC.via λR hR=>eqtab_table_clear.link ?_
 unfold eqtab_table_clear.pt
 intro c H1 hc hH1
 have e1:Ext H H1:=Ext.push' hH1
 have g1:=push_get hc hH1
 have hcb:c ∉ [b.sp,b.m,b.s]:=λh=>by
  have:=S.blt c (by simp at h;simp[Blk.all];omega)
  omega
 refine⟨_,hat_blk g1,?_⟩
 refine HC.mono ((S.ext e1).setCar_c O hp word20 (O.nil S.j)) ?_
 rintro _ H2 ⟨rfl,x2,S2,r2,f2⟩
 refine⟨_,rfl,_,hat_blk (f2.get hcb g1),?_⟩
 refine HC.mono (S2.setCdr_c O (PF.upd_at f p _) word20 (O.nil S2.j)) ?_
 rintro _ H3 ⟨rfl,x3,S3,r3,f3⟩
 rw[PF.upd_upd]at S3
 exact⟨_,rfl,hR _ _ ⟨x3,S3,r2.trans r3,e1.fr.trans (f2.trans f3)⟩⟩

theorem HPic.no20{m:Mem}(h:HPic m f th):f 20=none:=by
 cases e:f 20 with
 | none=>rfl
 | some p=>
  have hp:=(h.prs 20 p.1 p.2 e).at'.2.1
  omega
theorem Chn.det(h20:f 20=none): ∀{l l':List (Int×Int)} {w:Int},Chn f w l->Chn f w l'->l=l'
 | [],[],_,_,_=>rfl
 | [],q::l',w,h,⟨h1,d,h2,h3⟩=>by
  have h:w=20:=h
  rw[<-h1,h,h20]at h2;cases h2
 | q::l,[],w,⟨h1,d,h2,h3⟩,h=>by
  have h:w=20:=h
  rw[<-h1,h,h20]at h2;cases h2
 | q::l,q'::l',w,⟨h1,d,h2,h3⟩,⟨k1,d',k2,k3⟩=>by
  rw[<-h1]at h2
  rw[<-k1,h2]at k2
  simp only[Option.some.injEq,Prod.mk.injEq]at k2
  obtain⟨e1,e2⟩:=k2
  subst e2
  have:=Chn.det h20 h3 k3
  subst this
  have:q=q':=Prod.ext (h1.symm.trans k1) e1
  rw[this]
theorem Chn.at': ∀{l:List (Int×Int)} {w:Int} (k:Nat),Chn f w l->(h:k<l.length)->Chn f l[k].1 (l.drop k)
 | q::l,w,0,h,_=>by
  have:=h.1
  subst this
  exact h
 | q::l,w,k+1,⟨h1,d,h2,h3⟩,hk=>by
  have hk':k<l.length:=by simpa using hk
  exact Chn.at' k h3 hk'
theorem Chn.nodup(h20:f 20=none): ∀{l:List (Int×Int)} {w:Int},Chn f w l->(l.map Prod.fst).Nodup
 | [],_,_=>List.nodup_nil
 | p::l,w,h=>by
  obtain⟨h1,d,h2,h3⟩:=id h
  rw[List.map_cons,List.nodup_cons]
  refine⟨λhm=>?_,Chn.nodup h20 h3⟩
  obtain⟨q,hq,e⟩:=List.mem_map.1 hm
  obtain⟨k,hk,rfl⟩:=List.getElem_of_mem hq
  have c1:=Chn.at' k h3 hk
  rw[e,<-h1]at c1
  have:=congrArg List.length (Chn.det h20 c1 h)
  rw[List.length_drop]at this
  simp at this
  omega
def remC(l:List (Int×Int))(cw:Int):Nat:=l.length-(l.map Prod.fst).idxOf cw
theorem idxOf_nodup: ∀(l:List Int) (k:Nat),l.Nodup->(h:k<l.length)->l.idxOf l[k]=k
 | a::l,0,_,_=>by simp
 | a::l,k+1,hn,h=>by
  rw[List.nodup_cons]at hn
  have hk:k<l.length:=by simpa using h
  have hne:a≠l[k]:=λe=>hn.1 (by rw[e];exact List.getElem_mem hk)
  show(a::l).idxOf l[k]=k+1
  rw[List.idxOf_cons,show(a==l[k])=false from beq_eq_false_iff_ne.2 hne]
  simp only[cond_false]
  rw[idxOf_nodup l k hn.2 hk]
def atC(l:List (Int×Int))(k:Nat):Int:=((l.map Prod.fst)[k]?).getD 20
theorem remC_at(h20:f 20=none){l:List (Int×Int)}{w:Int}(h:Chn f w l)(k:Nat)(hk:k<=l.length):remC l (atC l k)=l.length-k:=by
 unfold remC atC
 rcases Nat.lt_or_ge k l.length with hl | hl
 ·rw[List.getElem?_eq_getElem (by simpa using hl)]
  rw[Option.getD_some,idxOf_nodup _ k (h.nodup h20) (by simpa using hl)]
 ·have hk':k=l.length:=by omega
  rw[List.getElem?_eq_none (by simpa using hl)]
  have hn:(20:Int) ∉ l.map Prod.fst:=λhm=>by
   obtain⟨p,hp,e⟩:=List.mem_map.1 hm
   obtain⟨d,hd⟩:=h.some p hp
   rw[e,h20]at hd;cases hd
  rw[Option.getD_none,List.idxOf_eq_length hn,List.length_map];omega
theorem Chn.atK{l:List (Int×Int)}{w:Int}(h:Chn f w l)(k:Nat)(hk:k<=l.length):Chn f (atC l k) (l.drop k):=by
 unfold atC
 rcases Nat.lt_or_ge k l.length with hl | hl
 ·rw[List.getElem?_eq_getElem (by simpa using hl),Option.getD_some,List.getElem_map]
  exact Chn.at' k h hl
 ·rw[List.getElem?_eq_none (by simpa using hl),List.drop_of_length_le hl];rfl
def cellW(A:zV)(c:Nat):Int:=match hat A ⟨c,0,none⟩with
 | some (.int .u64 w)=>w
 | _=>0
theorem pairs_c{H:zV}{hv:zW}{t l:Int}:
  eqtab_table_pairs.C hv t l H (λv H'=> ∃p q:Nat,v=.func (.func 92) #[] #[.pointer (some ⟨p,0,none⟩),.pointer (some ⟨q,0,none⟩)]/\H'[p]?=some (.cells #[.pointer hv,.int .u64 t] 72 (0,0))/\H'[q]?=some (.cells #[.int .u64 l] 31 (0,0))/\
   p≠q/\H.size<=p/\H.size<=q/\Ext H H'):=by
 refine HC.via λR hR=>eqtab_table_pairs.link ?_
 unfold eqtab_table_pairs.pt
 intro c H1 hc hH1 c2 H2 hc2 hH2
 have e1:Ext H H1:=Ext.push' hH1
 have e2:Ext H1 H2:=Ext.push' hH2
 have hg:=push_get hc hH1
 have h1:=lt_size hg
 exact hR _ _ ⟨c,c2,rfl,e2.get hg,push_get hc2 hH2,by omega,by omega,by have:=e1.size;omega,e1.trans e2⟩
set_option maxRecDepth 100000 in
theorem tpairs_loop{A0:zV}{yield:Value}{c c2:Nat}{t w:Int}{l:List (Int×Int)}{R0:zV->Prop}(Inv:Nat->zV->Prop)(h20:f 20=none)(hch:Chn f w l)
  (hb:A0[c]?=some (.cells #[.pointer (some ⟨b.h,0,none⟩),.int .u64 t] 72 (0,0))) (hb2:A0[c2]?=some (.cells #[.int .u64 w] 31 (0,0))) (hne:c≠c2) (h0:Inv 0 A0)
  (hvw: ∀k A,Inv k A->HS J H0 A b x G f th)
  (hfr: ∀k A A',Inv k A->Fr [c2] A A'->Inv k A')
  (hstep: ∀(k:Nat) (h:k<l.length) (A:zV),Inv k A->FC Tryz.prog yield #[.int .u64 l[k].1] A (λv A'=> ∃y:Bool,v=.bool y/\(y=true->Inv (k+1) A'/\(A'[c]?=A[c]?/\A'[c2]?=A[c2]?))/\(y=false->R0 A')))
  (hlast: ∀A:zV,Inv l.length A->R0 A):
  eqtab_table_pairs_1.C yield (some ⟨c,0,none⟩) (some ⟨c2,0,none⟩) A0 (λv A'=>v=.tuple #[]/\R0 A'):=by
 refine HC.via λR hR=>eqtab_table_pairs_1.link ?_
 unfold eqtab_table_pairs_1.pt
 have hw0:w=atC l 0:=by
  unfold atC
  cases l with
  | nil=>exact hch
  | cons p l=>exact hch.1
 refine⟨λA=> ∃k,k<=l.length/\Inv k A/\A[c]?=some (.cells #[.pointer (some ⟨b.h,0,none⟩),.int .u64 t] 72 (0,0))/\A[c2]?=some (.cells #[.int .u64 (atC l k)] 31 (0,0)),λA=>remC l (cellW A c2),⟨0,Nat.zero_le _,h0,hb,by rw[<-hw0];exact hb2⟩,?_⟩
 rintro H1 ⟨k,hk,hI,g,g2⟩
 have hm1:cellW H1 c2=atC l k:=by unfold cellW;rw[hat_blk g2];rfl
 have S1:=hvw k H1 hI
 have hc:=hch.atK k hk
 have hword:IsWord (atC l k):=by
  rcases Nat.lt_or_ge k l.length with hkl | hkl
  ·rw[List.drop_eq_getElem_cons hkl]at hc
   obtain⟨e,d,hf,_⟩:=hc
   rw[e];exact(S1.pic.prs _ _ _ hf).word
  ·rw[List.drop_of_length_le hkl]at hc
   have:atC l k=20:=hc
   rw[this];decide
 refine⟨_,rfl,_,hat_blk g,_,rfl,_,hat_blk g2,?_⟩
 have hmo:mof (some (b,x))=x.sp.mem:=rfl
 refine HC.mono (obj_Pair_c S1.view hword) ?_
 rintro _ H2 ⟨rfl,e2⟩
 refine⟨_,rfl,?_⟩
 rw[hmo]
 have hI2:=hfr k H1 H2 hI e2.fr
 rcases Nat.lt_or_ge k l.length with hkl | hkl
 ·rw[List.drop_eq_getElem_cons hkl]at hc
  obtain⟨e,d,hf,hrest⟩:=hc
  have hat:atC l k=l[k].1:=e
  rw[hat]at hword g2 hm1⊢
  have hp:=S1.pic.prs _ _ _ hf
  rw[if_pos (zX hp.isPair)]
  refine⟨_,hat_blk (e2.get g),_,hat_blk (e2.get g2),?_⟩
  refine HC.mono ((S1.ext e2).cdr_c hf) ?_
  rintro _ H3 ⟨rfl,e3⟩
  have e23:=e2.trans e3
  refine⟨_,_,rfl,_,hat_blk (e23.get g2),?_⟩
  refine(hstep k hkl H3 (hfr k H1 H3 hI e23.fr)).mono ?_
  rintro v H4 ⟨y,rfl,ht,hf'⟩
  refine⟨y,rfl,?_⟩
  by_cases hy:y=true
  ·rw[if_pos hy]
   obtain⟨hI4,k1,k2⟩:=ht hy
   have g4:H4[c]?=_:=k1.trans (e23.get g)
   have g24:H4[c2]?=_:=k2.trans (e23.get g2)
   obtain⟨hcp,hpu⟩:=box_set (vs:=[.int .u64 d]) g24 rfl rfl
   refine⟨hcp,λH5 hH5=>?_⟩
   obtain⟨g5,f5⟩:=hpu H5 hH5
   have hd:d=atC l (k+1):=by
    have c1:=hch.atK (k+1) hkl
    cases hl:l.drop (k+1)with
    | nil=>
     rw[hl]at hrest c1
     have h1:d=20:=hrest
     have h2:atC l (k+1)=20:=c1
     rw[h1,h2]
    | cons q l'=>
     rw[hl]at hrest c1
     exact hrest.1.trans c1.1.symm
   rw[hd]at g5
   have hm5:cellW H5 c2=atC l (k+1):=by unfold cellW;rw[hat_blk g5];rfl
   refine⟨⟨k+1,hkl,hfr _ _ _ hI4 f5,f5.get (by simp;exact hne) g4,g5⟩,?_⟩
   show remC l (cellW H5 c2)<remC l (cellW H1 c2)
   rw[hm5,hm1,<-hat,remC_at h20 hch _ hkl,remC_at h20 hch _ hk];omega
  ·rw[if_neg hy]
   exact hR _ _ ⟨rfl,hf' (by simpa using hy)⟩
 ·have hkl':k=l.length:=by omega
  rw[List.drop_of_length_le hkl]at hc
  have h2:atC l k=20:=hc
  have hnp: ¬x.sp.mem.isPair (atC l k):=λh=>by
   rw[h2]at h
   rcases h.1 with h | h
   ·exact absurd h.2.1 (by decide)
   ·exact absurd h.2.1 (by decide)
  rw[if_neg (by simpa using hnp)]
  exact hR _ _ ⟨rfl,hlast _ (hkl'▸hI2)⟩
end
