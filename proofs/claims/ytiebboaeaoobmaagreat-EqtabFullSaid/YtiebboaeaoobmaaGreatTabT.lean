/-
 Contracts of package eqtab: what a table's words are, what goes over the pairs of a list. Proves nothing of any one statement.
-/
import Derived.Test.YtiebboaeaoobmaaGreatTabC
import Derived.Test.YtiebboaeaoobmaaGreatText
import Derived.Test.YtiebboaeaoobmaaGreatFeqtab
set_option linter.unusedVariables false
set_option linter.unusedSimpArgs false
namespace Go.Proofs.YtiebboaeaoobmaaGreat
open Go

theorem PF.upd_upd(f:PF)(w:Int)(p q:Int×Int):(f.upd w p).upd w q=f.upd w q:=by
 funext u
 unfold PF.upd
 split<;>rfl
theorem TF.upd_upd(f:TF)(w:Int)(p q:Int×List Int):(f.upd w p).upd w q=f.upd w q:=by
 funext u
 unfold TF.upd
 split<;>rfl
theorem rowO{H:zV}{c o:Nat}{v:Value}(h:hat H ⟨c,o,none⟩=some v):aL H ⟨c,o,none⟩ 0 [v]:=⟨by rw[addr_add_mk];exact h,trivial⟩
theorem kh{H:zV}{i:Nat}{o o':Obj}(h:H[i]?=some o):(aV H i o')[i]?=some o':=bJ (aY h)
theorem oM{H:zV}{n:Int}(h:0<=n/\n<1152921504606846976):fH.C n H (λv H'=>v=.int .u64 (8*n)/\Ext H H'):=by
 refine HC.via λR hR=>fH.link ?_
 unfold fH.pt
 refine HC.mono (pj (by omega)) ?_
 rintro _ H1 ⟨rfl,e1⟩
 rw[if_pos (by omega)]
 have e:fixW n=8*n:=by unfold fixW;omega
 rw[e]
 exact⟨_,_,rfl,hR _ _ ⟨rfl,e1⟩⟩
theorem lW{H:zV}{k:Int}(hk:aG k):eD.C k H (λv H'=>v=.int .i64 (idxK k:Nat)/\H'=H):=by
 refine HC.via λR hR=>eD.link ?_
 unfold eD.pt zY
 have h0:=hk.1
 have h1:=hk.2
 rw[hM 3 3 rfl (by decide),show(2:Int) ^ 3=8 by decide,Int.tmod_eq_emod_of_nonneg (by omega),w64 (by omega)]
 refine hR _ _ ⟨?_,rfl⟩
 unfold idxK
 rw[show(((k / 8 % 31).toNat:Nat):Int)=k / 8 % 31 by omega]
section
variable {J:Sp->(Int->Prop)->Prop} {H0 H:zV} {b:Blk} {x:Hp} {G:Int->Prop} {f:PF} {th:TF}
theorem mB(S:HS J H0 H b x G f th){t:Int}{fs:List Int}(ht:th t=some (11,fs))(hl:fs.length=4):
  eK.C (some ⟨b.h,0,none⟩) t H (λv H'=>v=.tuple #[.agg #[.pointer (some ⟨b.h,0,none⟩),.int .u64 t],.int .i64 0]/\Ext H H'):=by
 refine HC.via λR hR=>eK.link ?_
 unfold eK.pt
 intro c H1 hc hH1
 have e1:Ext H H1:=Ext.push' hH1
 have g1:=aF hc hH1
 rw[onPtr_some]
 have T:=S.pic.ths t 11 fs ht
 have hmo:mof (some (b,x))=x.sp.mem:=rfl
 refine HC.mono (pp (S.view.ext e1) T.word) ?_
 rintro _ H2 ⟨rfl,e2⟩
 refine⟨_,rfl,?_⟩
 rw[hmo,T.typ,if_pos rfl]
 refine HC.mono (qC (S.view.ext (e1.trans e2)) T.word) ?_
 rintro _ H3 ⟨rfl,e3⟩
 refine⟨_,rfl,?_⟩
 rw[hmo,T.len,hl,if_pos (by decide)]
 obtain⟨hcp,hs⟩:=eF (vs:=[.pointer (some ⟨b.h,0,none⟩),.int .u64 t]) ((e2.trans e3).get g1) rfl rfl
 refine⟨hcp,λH4 hH4=>?_⟩
 obtain⟨g4,f4⟩:=hs H4 hH4
 refine⟨_,_,bA g4,hR _ _ ⟨rfl,((e1.trans e2).trans e3).fr_trans f4 (λj hj=>by simp at hj;omega)⟩⟩
theorem ju(S:HS J H0 H b x G f th){t v i:Int}{fs:List Int}(ht:th t=some (11,fs))(hi:0<=i)(hv:fs[i.toNat]?=some v):
  bH.C (some ⟨b.h,0,none⟩) t i H (λu H'=>u=.int .u64 v/\Ext H H'):=by
 refine HC.via λR hR=>bH.link ?_
 unfold bH.pt
 intro c H1 hc hH1
 have e1:Ext H H1:=Ext.push' hH1
 have g1:=aF hc hH1
 refine⟨_,aK g1,_,by rw[fF g1 1];rfl,?_⟩
 refine HC.mono ((S.ext e1).get_c ht hi hv) ?_
 rintro _ H2 ⟨rfl,e2⟩
 exact⟨_,_,rfl,hR _ _ ⟨rfl,e1.trans e2⟩⟩
theorem mC(O:JOK J)(S:HS J H0 H b x G f th){t v i:Int}{fs:List Int}(ht:th t=some (11,fs))(hi:0<=i)(hl:i.toNat<fs.length)(hv:aG v)(gv:G v):
  cx.C (some ⟨b.h,0,none⟩) t i v H (λ_ H'=> ∃x',HS J H0 H' b x' G f (th.upd t (11,fs.set i.toNat v))/\Rest 0 x x'/\Fr [b.sp,b.m,b.s] H H'):=by
 refine HC.via λR hR=>cx.link ?_
 unfold cx.pt
 intro c H1 hc hH1
 have e1:Ext H H1:=Ext.push' hH1
 have g1:=aF hc hH1
 refine⟨_,aK g1,_,by rw[fF g1 1];rfl,?_⟩
 refine HC.mono ((S.ext e1).set_c O ht hi hl hv gv) ?_
 rintro _ H2 ⟨rfl,x',h1,h2,h3⟩
 exact⟨_,rfl,hR _ _ ⟨x',h1,h2,e1.fr.trans h3⟩⟩
theorem rG(S:HS J H0 H b x G f th){t:Int}(he:0<=x.ep/\x.ep<1152921504606846976):
  dy.C (some ⟨b.h,0,none⟩) t H (λv H'=>v=.int .u64 (8*x.ep)/\Ext H H'):=by
 refine HC.via λR hR=>dy.link ?_
 unfold dy.pt zY
 intro c H1 hc hH1
 have e1:Ext H H1:=Ext.push' hH1
 have g1:=aF hc hH1
 refine⟨_,aK g1,?_⟩
 refine HC.mono (lH (S.view.ext e1)) ?_
 rintro _ H2 ⟨rfl,rfl⟩
 have hE:epO (some (b,x))=x.ep:=rfl
 rw[hE]
 refine⟨_,rfl,?_⟩
 rw[w64 (n:=x.ep) (by omega)]
 refine HC.mono (oM he) ?_
 rintro _ H3 ⟨rfl,e3⟩
 exact⟨_,rfl,hR _ _ ⟨rfl,e1.trans e3⟩⟩
theorem j4(S:HS J H0 H b x G f th){t vb v i:Int}{fs ws:List Int}(ht:th t=some (11,fs))(h2:fs[2]?=some vb)(hb:th vb=some (1,ws))(hi:0<=i)(hv:ws[i.toNat]?=some v):
  bO.C (some ⟨b.h,0,none⟩) t i H (λu H'=>u=.int .u64 v/\Ext H H'):=by
 refine HC.via λR hR=>bO.link ?_
 unfold bO.pt
 intro c H1 hc hH1
 have e1:Ext H H1:=Ext.push' hH1
 have g1:=aF hc hH1
 refine⟨_,aK g1,_,_,bA g1,?_⟩
 refine HC.mono (ju (S.ext e1) ht (by decide) h2) ?_
 rintro _ H2 ⟨rfl,e2⟩
 refine⟨_,rfl,rowO (aK (e2.get g1)),?_⟩
 refine HC.mono ((S.ext (e1.trans e2)).get_c hb hi hv) ?_
 rintro _ H3 ⟨rfl,e3⟩
 exact⟨_,_,rfl,hR _ _ ⟨rfl,(e1.trans e2).trans e3⟩⟩
theorem jp(O:JOK J)(S:HS J H0 H b x G f th){t vb v i:Int}{fs ws:List Int}(ht:th t=some (11,fs))(h2:fs[2]?=some vb)(hb:th vb=some (1,ws))(hi:0<=i)(hl:i.toNat<ws.length)(hv:aG v)(gv:G v):
  bE.C (some ⟨b.h,0,none⟩) t i v H (λ_ H'=> ∃x',HS J H0 H' b x' G f (th.upd vb (1,ws.set i.toNat v))/\Rest 0 x x'/\Fr [b.sp,b.m,b.s] H H'):=by
 refine HC.via λR hR=>bE.link ?_
 unfold bE.pt
 intro c H1 hc hH1
 have e1:Ext H H1:=Ext.push' hH1
 have g1:=aF hc hH1
 refine⟨_,aK g1,_,_,bA g1,?_⟩
 refine HC.mono (ju (S.ext e1) ht (by decide) h2) ?_
 rintro _ H2 ⟨rfl,e2⟩
 refine⟨_,rfl,rowO (aK (e2.get g1)),?_⟩
 refine HC.mono ((S.ext (e1.trans e2)).set_c O hb hi hl hv gv) ?_
 rintro _ H3 ⟨rfl,x',q1,q2,q3⟩
 exact⟨_,rfl,hR _ _ ⟨x',q1,q2,(e1.trans e2).fr.trans q3⟩⟩
theorem tl(S:HS J H0 H b x G f th){t p e d k v:Int}(hp:f p=some (e,d))(he:f e=some (k,v)):
  dw.C (some ⟨b.h,0,none⟩) t p H (λu H'=>u=.tuple #[.int .u64 e,.int .u64 k]/\Ext H H'):=by
 refine HC.via λR hR=>dw.link ?_
 unfold dw.pt
 intro c H1 hc hH1
 have e1:Ext H H1:=Ext.push' hH1
 have g1:=aF hc hH1
 refine⟨_,aK g1,?_⟩
 refine HC.mono ((S.ext e1).car_c hp) ?_
 rintro _ H2 ⟨rfl,e2⟩
 refine⟨_,_,rfl,_,aK (e2.get g1),?_⟩
 refine HC.mono ((S.ext (e1.trans e2)).car_c he) ?_
 rintro _ H3 ⟨rfl,e3⟩
 exact⟨_,_,rfl,hR _ _ ⟨rfl,(e1.trans e2).trans e3⟩⟩
theorem iN:aG 20:=by decide
theorem JOK.nil(O:JOK J){s:Sp}(h:J s G):G 20:=O.imm h 20 (by decide) (by decide)
theorem JOK.fix(O:JOK J){s:Sp}(h:J s G)(n:Int):G (8*n):=O.imm h _ (by omega) (by omega)
theorem qh(O:JOK J)(S:HS J H0 H b x G f th){t p a d:Int}(hp:f p=some (a,d)):
  cM.C (some ⟨b.h,0,none⟩) t p H (λ_ H'=> ∃x',HS J H0 H' b x' G (f.upd p (20,20)) th/\Rest 0 x x'/\Fr [b.sp,b.m,b.s] H H'):=by
 refine HC.via λR hR=>cM.link ?_
 unfold cM.pt
 intro c H1 hc hH1
 have e1:Ext H H1:=Ext.push' hH1
 have g1:=aF hc hH1
 have hcb:c ∉ [b.sp,b.m,b.s]:=λh=>by
  have:=S.blt c (by simp at h;simp[Blk.all];omega)
  omega
 refine⟨_,aK g1,?_⟩
 refine HC.mono ((S.ext e1).setCar_c O hp iN (O.nil S.j)) ?_
 rintro _ H2 ⟨rfl,x2,S2,r2,f2⟩
 refine⟨_,rfl,_,aK (f2.get hcb g1),?_⟩
 refine HC.mono (S2.setCdr_c O (PF.upd_at f p _) iN (O.nil S2.j)) ?_
 rintro _ H3 ⟨rfl,x3,S3,r3,f3⟩
 rw[PF.upd_upd]at S3
 exact⟨_,rfl,hR _ _ ⟨x3,S3,r2.trans r3,e1.fr.trans (f2.trans f3)⟩⟩

theorem HPic.no20{m:Mem}(h:HPic m f th):f 20=none:=by
 cases e:f 20 with
 | none=>rfl
 | some p=>
  have hp:=(h.prs 20 p.1 p.2 e).at'.2.1
  omega
theorem Chn.det(h20:f 20=none): ∀{l l':List (Int×Int)} {w:Int},Chn f w l->Chn f w l'->l=l'
 | [],[],_,_,_=>rfl
 | [],q::l',w,h,⟨h1,d,h2,h3⟩=>by
  have h:w=20:=h
  rw[<-h1,h,h20]at h2;cases h2
 | q::l,[],w,⟨h1,d,h2,h3⟩,h=>by
  have h:w=20:=h
  rw[<-h1,h,h20]at h2;cases h2
 | q::l,q'::l',w,⟨h1,d,h2,h3⟩,⟨k1,d',k2,k3⟩=>by
  rw[<-h1]at h2
  rw[<-k1,h2]at k2
  simp only[Option.some.injEq,Prod.mk.injEq]at k2
  obtain⟨e1,e2⟩:=k2
  subst e2
  have:=Chn.det h20 h3 k3
  subst this
  have:q=q':=Prod.ext (h1.symm.trans k1) e1
  rw[this]
theorem Chn.at': ∀{l:List (Int×Int)} {w:Int} (k:Nat),Chn f w l->(h:k<l.length)->Chn f l[k].1 (l.drop k)
 | q::l,w,0,h,_=>by
  have:=h.1
  subst this
  exact h
 | q::l,w,k+1,⟨h1,d,h2,h3⟩,hk=>by
  have hk':k<l.length:=by simpa using hk
  exact Chn.at' k h3 hk'
theorem Chn.nodup(h20:f 20=none): ∀{l:List (Int×Int)} {w:Int},Chn f w l->(l.map Prod.fst).Nodup
 | [],_,_=>List.nodup_nil
 | p::l,w,h=>by
  obtain⟨h1,d,h2,h3⟩:=id h
  rw[List.map_cons,List.nodup_cons]
  refine⟨λhm=>?_,Chn.nodup h20 h3⟩
  obtain⟨q,hq,e⟩:=List.mem_map.1 hm
  obtain⟨k,hk,rfl⟩:=List.getElem_of_mem hq
  have c1:=Chn.at' k h3 hk
  rw[e,<-h1]at c1
  have:=congrArg List.length (Chn.det h20 c1 h)
  rw[List.length_drop]at this
  simp at this
  omega
def remC(l:List (Int×Int))(cw:Int):Nat:=l.length-(l.map Prod.fst).idxOf cw
theorem lI: ∀(l:List Int) (k:Nat),l.Nodup->(h:k<l.length)->l.idxOf l[k]=k
 | a::l,0,_,_=>by simp
 | a::l,k+1,hn,h=>by
  rw[List.nodup_cons]at hn
  have hk:k<l.length:=by simpa using h
  have hne:a≠l[k]:=λe=>hn.1 (by rw[e];exact List.getElem_mem hk)
  show(a::l).idxOf l[k]=k+1
  rw[List.idxOf_cons,show(a==l[k])=false from beq_eq_false_iff_ne.2 hne]
  simp only[cond_false]
  rw[lI l k hn.2 hk]
def atC(l:List (Int×Int))(k:Nat):Int:=((l.map Prod.fst)[k]?).getD 20
theorem qi(h20:f 20=none){l:List (Int×Int)}{w:Int}(h:Chn f w l)(k:Nat)(hk:k<=l.length):remC l (atC l k)=l.length-k:=by
 unfold remC atC
 rcases Nat.lt_or_ge k l.length with hl | hl
 ·rw[List.getElem?_eq_getElem (by simpa using hl)]
  rw[Option.getD_some,lI _ k (h.nodup h20) (by simpa using hl)]
 ·have hk':k=l.length:=by omega
  rw[List.getElem?_eq_none (by simpa using hl)]
  have hn:(20:Int) ∉ l.map Prod.fst:=λhm=>by
   obtain⟨p,hp,e⟩:=List.mem_map.1 hm
   obtain⟨d,hd⟩:=h.some p hp
   rw[e,h20]at hd;cases hd
  rw[Option.getD_none,List.idxOf_eq_length hn,List.length_map];omega
theorem Chn.atK{l:List (Int×Int)}{w:Int}(h:Chn f w l)(k:Nat)(hk:k<=l.length):Chn f (atC l k) (l.drop k):=by
 unfold atC
 rcases Nat.lt_or_ge k l.length with hl | hl
 ·rw[List.getElem?_eq_getElem (by simpa using hl),Option.getD_some,List.getElem_map]
  exact Chn.at' k h hl
 ·rw[List.getElem?_eq_none (by simpa using hl),List.drop_of_length_le hl];rfl
def cellW(A:zV)(c:Nat):Int:=match hat A ⟨c,0,none⟩with
 | some (.int .u64 w)=>w
 | _=>0
theorem lX{H:zV}{hv:zW}{t l:Int}:
  bX.C hv t l H (λv H'=> ∃p q:Nat,v=.func (.func 92) #[] #[.pointer (some ⟨p,0,none⟩),.pointer (some ⟨q,0,none⟩)]/\H'[p]?=some (.cells #[.pointer hv,.int .u64 t] 72 (0,0))/\H'[q]?=some (.cells #[.int .u64 l] 31 (0,0))/\
   p≠q/\H.size<=p/\H.size<=q/\Ext H H'):=by
 refine HC.via λR hR=>bX.link ?_
 unfold bX.pt
 intro c H1 hc hH1 c2 H2 hc2 hH2
 have e1:Ext H H1:=Ext.push' hH1
 have e2:Ext H1 H2:=Ext.push' hH2
 have hg:=aF hc hH1
 have h1:=aY hg
 exact hR _ _ ⟨c,c2,rfl,e2.get hg,aF hc2 hH2,by omega,by omega,by have:=e1.size;omega,e1.trans e2⟩
set_option maxRecDepth 100000 in
theorem jq{A0:zV}{yield:Value}{c c2:Nat}{t w:Int}{l:List (Int×Int)}{R0:zV->Prop}(Inv:Nat->zV->Prop)(h20:f 20=none)(hch:Chn f w l)
  (hb:A0[c]?=some (.cells #[.pointer (some ⟨b.h,0,none⟩),.int .u64 t] 72 (0,0))) (hb2:A0[c2]?=some (.cells #[.int .u64 w] 31 (0,0))) (hne:c≠c2) (h0:Inv 0 A0)
  (hvw: ∀k A,Inv k A->HS J H0 A b x G f th)
  (hfr: ∀k A A',Inv k A->Fr [c2] A A'->Inv k A')
  (hstep: ∀(k:Nat) (h:k<l.length) (A:zV),Inv k A->FC Tryz.prog yield #[.int .u64 l[k].1] A (λv A'=> ∃y:Bool,v=.bool y/\(y=true->Inv (k+1) A'/\(A'[c]?=A[c]?/\A'[c2]?=A[c2]?))/\(y=false->R0 A')))
  (hlast: ∀A:zV,Inv l.length A->R0 A):
  dc.C yield (some ⟨c,0,none⟩) (some ⟨c2,0,none⟩) A0 (λv A'=>v=.tuple #[]/\R0 A'):=by
 refine HC.via λR hR=>dc.link ?_
 unfold dc.pt
 have hw0:w=atC l 0:=by
  unfold atC
  cases l with
  | nil=>exact hch
  | cons p l=>exact hch.1
 refine⟨λA=> ∃k,k<=l.length/\Inv k A/\A[c]?=some (.cells #[.pointer (some ⟨b.h,0,none⟩),.int .u64 t] 72 (0,0))/\A[c2]?=some (.cells #[.int .u64 (atC l k)] 31 (0,0)),λA=>remC l (cellW A c2),⟨0,Nat.zero_le _,h0,hb,by rw[<-hw0];exact hb2⟩,?_⟩
 rintro H1 ⟨k,hk,hI,g,g2⟩
 have hm1:cellW H1 c2=atC l k:=by unfold cellW;rw[aK g2];rfl
 have S1:=hvw k H1 hI
 have hc:=hch.atK k hk
 have hword:aG (atC l k):=by
  rcases Nat.lt_or_ge k l.length with hkl | hkl
  ·rw[List.drop_eq_getElem_cons hkl]at hc
   obtain⟨e,d,hf,_⟩:=hc
   rw[e];exact(S1.pic.prs _ _ _ hf).word
  ·rw[List.drop_of_length_le hkl]at hc
   have:atC l k=20:=hc
   rw[this];decide
 refine⟨_,rfl,_,aK g,_,rfl,_,aK g2,?_⟩
 have hmo:mof (some (b,x))=x.sp.mem:=rfl
 refine HC.mono (mt S1.view hword) ?_
 rintro _ H2 ⟨rfl,e2⟩
 refine⟨_,rfl,?_⟩
 rw[hmo]
 have hI2:=hfr k H1 H2 hI e2.fr
 rcases Nat.lt_or_ge k l.length with hkl | hkl
 ·rw[List.drop_eq_getElem_cons hkl]at hc
  obtain⟨e,d,hf,hrest⟩:=hc
  have hat:atC l k=l[k].1:=e
  rw[hat]at hword g2 hm1⊢
  have hp:=S1.pic.prs _ _ _ hf
  rw[if_pos (zX hp.isPair)]
  refine⟨_,aK (e2.get g),_,aK (e2.get g2),?_⟩
  refine HC.mono ((S1.ext e2).cdr_c hf) ?_
  rintro _ H3 ⟨rfl,e3⟩
  have e23:=e2.trans e3
  refine⟨_,_,rfl,_,aK (e23.get g2),?_⟩
  refine(hstep k hkl H3 (hfr k H1 H3 hI e23.fr)).mono ?_
  rintro v H4 ⟨y,rfl,ht,hf'⟩
  refine⟨y,rfl,?_⟩
  by_cases hy:y=true
  ·rw[if_pos hy]
   obtain⟨hI4,k1,k2⟩:=ht hy
   have g4:H4[c]?=_:=k1.trans (e23.get g)
   have g24:H4[c2]?=_:=k2.trans (e23.get g2)
   obtain⟨hcp,hpu⟩:=eF (vs:=[.int .u64 d]) g24 rfl rfl
   refine⟨hcp,λH5 hH5=>?_⟩
   obtain⟨g5,f5⟩:=hpu H5 hH5
   have hd:d=atC l (k+1):=by
    have c1:=hch.atK (k+1) hkl
    cases hl:l.drop (k+1)with
    | nil=>
     rw[hl]at hrest c1
     have h1:d=20:=hrest
     have h2:atC l (k+1)=20:=c1
     rw[h1,h2]
    | cons q l'=>
     rw[hl]at hrest c1
     exact hrest.1.trans c1.1.symm
   rw[hd]at g5
   have hm5:cellW H5 c2=atC l (k+1):=by unfold cellW;rw[aK g5];rfl
   refine⟨⟨k+1,hkl,hfr _ _ _ hI4 f5,f5.get (by simp;exact hne) g4,g5⟩,?_⟩
   show remC l (cellW H5 c2)<remC l (cellW H1 c2)
   rw[hm5,hm1,<-hat,qi h20 hch _ hkl,qi h20 hch _ hk];omega
  ·rw[if_neg hy]
   exact hR _ _ ⟨rfl,hf' (by simpa using hy)⟩
 ·have hkl':k=l.length:=by omega
  rw[List.drop_of_length_le hkl]at hc
  have h2:atC l k=20:=hc
  have hnp: ¬x.sp.mem.isPair (atC l k):=λh=>by
   rw[h2]at h
   rcases h.1 with h | h
   ·exact absurd h.2.1 (by decide)
   ·exact absurd h.2.1 (by decide)
  rw[if_neg (by simpa using hnp)]
  exact hR _ _ ⟨rfl,hlast _ (hkl'▸hI2)⟩
end

theorem k6{D:Nat}{A:zV}{K:zV->Prop}(hd:A[D]?=some (.deferred (some [])))(hk:K (A.setIfInBounds D (.deferred none))):Shut (D::[]) A K:=⟨hd,hk⟩
section
variable {J:Sp->(Int->Prop)->Prop} {H0 H H':zV} {b:Blk} {x x':Hp} {G G':Int->Prop} {f f':PF} {th th':TF} {t ew:Int} {E E':List Ent} {W W':TW}
set_option maxRecDepth 100000 in
set_option maxHeartbeats 1000000 in
theorem oO(S:HS J H0 H b x G f th){w:Int}{l:List (Int×Int)}(hch:Chn f w l){p q:Nat}(gp:H[p]?=some (.cells #[.pointer (some ⟨b.h,0,none⟩),.int .u64 t] 72 (0,0)))(gq:H[q]?=some (.cells #[.int .u64 w] 31 (0,0)))(hpq:p≠q)(hq0:H0.size<=q/\q ∉ b.all)
  {B:zW} {n c:Nat} {ws:List Int} (ho:Own H 31 1 B n c (wvs ws)) (hB: ∀j∈blks B,H0.size<=j/\j ∉ b.all/\j≠p/\j≠q) (hn:n+l.length<=1000000):
  aS.C B n c (.func (.func 92) #[] #[.pointer (some ⟨p,0,none⟩),.pointer (some ⟨q,0,none⟩)]) H (λv H'=> ∃B' c',v=.slice B' (n+l.length) c'/\Own H' 31 1 B' (n+l.length) c' (wvs (ws++l.map Prod.fst))/\(∀j∈blks B',j∈blks B\/H.size<=j)/\HS J H0 H' b x G f th/\Fr (q::blks B) H H'):=by
 refine HC.via λR hR=>aS.link ?_
 unfold aS.pt
 intro b1 H1 hb1 hH1 rc lp H2 hlp hH2 vY hY
 have e1:Ext H H1:=Ext.push' hH1
 have g1:=aF hb1 hH1
 have s1:H1.size=H.size+1:=by rw[hH1];simp
 have hl2:H2[lp]?=some (rc .ready none):=aF (by simp;omega) hH2
 have e12:Ext (H1.push (.deferred (some []))) H2:=Ext.push' hH2
 have hd2:H2[H1.size]?=some (.deferred (some [])):=e12.get (aF rfl rfl)
 have e2:Ext H1 H2:=(Ext.push H1 _).trans e12
 have s2:H2.size=H1.size+2:=by rw[hH2];simp
 have e02:=e1.trans e2
 have hp:=aY gp
 have hq:=aY gq
 have hBlt:=ho.lt
 have h20:=S.pic.no20
 have hblt:=S.blt
 have h0s:=S.e.size
 refine FE.of2 (enters_of Tryz.func92 (by kernel_rfl) rfl) rfl (HC.mono (jq (J:=J) (H0:=H0) (b:=b) (x:=x) (G:=G) (f:=f) (th:=th)
  (R0:=λA=> ∃(B':zW) (c':Nat),Own A 31 1 B' (n+l.length) c' (wvs (ws++l.map Prod.fst))/\(∀j∈blks B',j∈blks B\/H2.size<=j)/\A[lp]?=some (rc .ready none)/\A[H1.size]?=some (.deferred (some []))/\A[b1]?=some (.cells #[.slice B' (n+l.length) c'] 54 (0,0))/\HS J H0 A b x G f th/\Fr (q::blks B) H A)
  (λk A=> ∃(B':zW) (c':Nat),Own A 31 1 B' (n+k) c' (wvs (ws++(l.take k).map Prod.fst))/\(∀j∈blks B',j∈blks B\/H2.size<=j)/\A[lp]?=some (rc .ready none)/\A[H1.size]?=some (.deferred (some []))/\A[b1]?=some (.cells #[.slice B' (n+k) c'] 54 (0,0))/\HS J H0 A b x G f th/\Fr (q::blks B) H A)
  h20 hch (e02.get gp) (e02.get gq) hpq ⟨B,c,by simpa using ho.ext e02,λj hj=> .inl hj,hl2,hd2,by rw[Nat.add_zero];exact e2.get g1,S.ext e02,e02.fr⟩ (λk A h=>by obtain⟨_,_,_,_,_,_,_,h,_⟩:=h;exact h) ?_ ?_ ?_) (λv A h=>?_))
 ·rintro k A A' ⟨B',c',o,hb',hl,hd,hg,hs,fr⟩ f'
  have zA:=fr.size
  refine⟨B',c',o.keep f' (λj hj h=>?_),hb',f'.get (by simp;omega) hl,f'.get (by simp;omega) hd,f'.get (by simp;omega) hg,hs.keep f' (λj hj=>by simp at hj;rw[hj];exact hq0.1) (λj hj=>by simp at hj;rw[hj];exact hq0.2),fr.trans (f'.mono (λi hi _=>by simp at hi;simp[hi]))⟩
  simp at h
  rcases hb' j hj with h' | h'
  ·exact(hB j h').2.2.2 h
  ·omega
 ·rintro k hkl A ⟨B',c',o,hb',hl,hd,hg,hs,fr⟩
  refine hY _ A _ hl ⟨hl,λH4 hH4=>?_⟩
  have f4:Fr [lp] A H4:=by rw[hH4];exact Fr.set
  have gl4:H4[lp]?=some (rc .busy none):=by rw[hH4];exact kh hl
  have zl:=aY hl
  have z4:=f4.size
  have hg4:=f4.get (b:=b1) (by simp;omega) hg
  have hBn: ∀j∈blks B',j≠lp/\j≠H1.size/\j≠b1/\j≠p/\j≠q/\H0.size<=j/\j ∉ b.all:=λj hj=>by
   rcases hb' j hj with h | h
   ·have h1:=hBlt j h;have h2:=hB j h
    exact⟨by omega,by omega,by omega,h2.2.2.1,h2.2.2.2,h2.1,h2.2.1⟩
   ·exact⟨by omega,by omega,by omega,by omega,by omega,by omega,λh'=>by have:=hblt j h';omega⟩
  refine⟨_,_,_,aK hg4,λb2 H5 hb2 hH5=>?_⟩
  have e5:Ext H4 H5:=Ext.push' hH5
  have z5:=e5.size
  refine fi (ys:=wvs [l[k].1]) ((o.keep f4 (λj hj h=>by simp at h;exact(hBn j hj).1 h)).ext e5) (eC (aF hb2 hH5) _ 0 0 (λj hj=>by
   simp only[wvs,List.map_cons,List.map_nil,List.length_cons,List.length_nil]at hj
   obtain rfl:j=0:=by omega
   rfl)) rfl (ji _) rfl (by omega) ?_
  intro B2 c2 H6 ho6 f6 hn6
  have hg6:=f6.get (b:=b1) (λh=>(hBn _ h).2.2.1 rfl) (e5.get hg4)
  obtain⟨hcp,hs'⟩:=eF (vs:=[.slice B2 (n+k+1) c2]) hg6 rfl rfl
  refine⟨hcp,λH7 hH7=>?_⟩
  obtain⟨g7,f7⟩:=hs' H7 hH7
  have hl7:H7[lp]?=some (rc .busy none):=f7.get (by simp;omega) (f6.get (λh=>(hBn _ h).1 rfl) (e5.get gl4))
  have hd7:H7[H1.size]?=some (.deferred (some [])):=f7.get (by simp;omega) (f6.get (λh=>(hBn _ h).2.1 rfl) (e5.get (f4.get (by simp;omega) hd)))
  have f8:Fr [lp] H7 (aV H7 lp (rc .ready none)):=Fr.set
  have hB2: ∀j∈blks B2,j∈blks B\/H2.size<=j:=λj hj=>by
   rcases hn6 j hj with h | h
   ·exact hb' j h
   ·right;have:=fr.size;have:H2.size<=A.size:=by omega
    omega
  have hB2n: ∀j∈blks B2,j≠lp/\j≠b1:=λj hj=>by
   rcases hn6 j hj with h | h
   ·exact⟨(hBn j h).1,(hBn j h).2.2.1⟩
   ·omega
  have F1:Fr (lp::b1::blks B') A (aV H7 lp (rc .ready none)):=(((f4.mono (λi hi _=>by simp at hi;simp[hi])).trans (e5.fr.trans (f6.mono (λi hi _=>by simp[hi])))).trans (f7.mono (λi hi _=>by simp at hi;simp[hi]))).trans (f8.mono (λi hi _=>by simp at hi;simp[hi]))
  have hF1: ∀i∈lp::b1::blks B',H0.size<=i/\i ∉ b.all/\i≠p/\i≠q:=λi hi=>by
   rcases List.mem_cons.1 hi with h | h
   ·exact⟨by omega,λh'=>by have:=hblt i h';omega,by omega,by omega⟩
   rcases List.mem_cons.1 h with h | h
   ·exact⟨by omega,λh'=>by have:=hblt i h';omega,by omega,by omega⟩
   ·have:=hBn i h
    exact⟨this.2.2.2.2.2.1,this.2.2.2.2.2.2,this.2.2.2.1,this.2.2.2.2.1⟩
  have htk:(l.take (k+1)).map Prod.fst=(l.take k).map Prod.fst++[l[k].1]:=by rw[List.take_succ_eq_append_getElem hkl,List.map_append];rfl
  have ho8:=(ho6.keep f7 (λj hj h=>by simp at h;exact(hB2n j hj).2 h)).keep f8 (λj hj h=>by simp at h;exact(hB2n j hj).1 h)
  refine⟨hl7,true,rfl,λ_=>⟨⟨B2,c2,?_,hB2,kh hl7,f8.get (by simp;omega) hd7,f8.get (by simp;omega) g7,hs.keep F1 (λj hj=>(hF1 j hj).1) (λj hj=>(hF1 j hj).2.1),fr.trans' F1 (λj hj _=>hj) (λj hj hlt=>?_)⟩,F1.2 p (by have:=fr.size;omega) (λh=>(hF1 p h).2.2.1 rfl),F1.2 q (by have:=fr.size;omega) (λh=>(hF1 q h).2.2.2 rfl)⟩,λh=>by(cases h)⟩
  ·rw[htk,<-List.append_assoc]
   unfold wvs at*
   rw[List.map_append]
   exact ho8
  ·rcases List.mem_cons.1 hj with h | h
   ·omega
   rcases List.mem_cons.1 h with h | h
   ·omega
   rcases hb' j h with h | h
   ·simp[h]
   ·omega
 ·rintro A ⟨B',c',o,hb',hl,hd,hg,hs,fr⟩
  rw[List.take_length]at o
  exact⟨B',c',o,hb',hl,hd,hg,hs,fr⟩
 ·obtain⟨B',c',o,hb',hl,hd,hg,hs,fr⟩:=h.2
  refine⟨hl,λH9 hH9=>?_⟩
  have f9:Fr [lp] A H9:=by rw[hH9];exact Fr.set
  refine⟨_,_,_,aK (f9.get (by simp;omega) hg),?_⟩
  have fD:Fr [H1.size] H9 (H9.setIfInBounds H1.size (.deferred none)):=Fr.set
  have F:Fr [lp,H1.size] A (H9.setIfInBounds H1.size (.deferred none)):=(f9.mono (λi hi _=>by simp at hi;simp[hi])).trans (fD.mono (λi hi _=>by simp at hi;simp[hi]))
  have hlo: ∀i∈[lp,H1.size],H.size<=i:=λi hi=>by simp at hi;omega
  refine k6 (f9.get (by simp;omega) hd) (hR _ _ ⟨B',c',rfl,o.keep F (λj hj h=>?_),λj hj=>(hb' j hj).imp_right (λh=>by omega),hs.keep F (λj hj=>by have:=hlo j hj;omega) (λj hj h=>by have:=hlo j hj;have:=hblt j h;omega),fr.trans' F (λj hj _=>hj) (λj hj hlt=>by have:=hlo j hj;omega)⟩)
  have:=hlo j h
  rcases hb' j hj with h' | h'
  ·have:=hBlt j h';omega
  ·simp at h;omega
end

def Qn0(bs:Nat->List (Int×Int)):Nat->List (Int×Int)
 | 0=> []
 | n+1=>Qn0 bs n++bs n
@[irreducible] def Qn (bs:Nat->List (Int×Int)) (n:Nat):List (Int×Int):=Qn0 bs n
theorem lY{bs:Nat->List (Int×Int)}:Qn bs 0=[]:=by unfold Qn;rfl
theorem lZ{bs:Nat->List (Int×Int)}{n:Nat}:Qn bs (n+1)=Qn bs n++bs n:=by unfold Qn;rfl
theorem jj{bs:Nat->List (Int×Int)}: ∀{n:Nat} {p:Int×Int},p∈Qn bs n ↔ ∃i,i<n/\p∈bs i
 | 0,p=>⟨λh=>(by rw[lY]at h;cases h),λ⟨i,hi,_⟩=>by omega⟩
 | n+1,p=>by
  rw[lZ,List.mem_append,jj]
  constructor
  ·rintro(⟨i,hi,h⟩ | h)
   ·exact⟨i,by omega,h⟩
   ·exact⟨n,by omega,h⟩
  ·rintro⟨i,hi,h⟩
   by_cases e:i=n
   ·rw[<-e];exact .inr h
   ·exact .inl ⟨i,by omega,h⟩
def kf(f:PF)(e:Int):Int:=((f e).getD (0,0)).1
def bsQ(f:PF)(l:List (Int×Int))(i:Nat):List (Int×Int):=(l.filter λp=>decide (idxK (kf f p.2)=i)).reverse
theorem rH(f:PF)(l:List (Int×Int))(p:Int×Int)(i:Nat):bsQ f (l++[p]) i=if idxK (kf f p.2)=i then p::bsQ f l i else bsQ f l i:=by
 unfold bsQ
 rw[List.filter_append,List.reverse_append]
 by_cases h:idxK (kf f p.2)=i
 ·rw[if_pos h,List.filter_cons_of_pos (by simpa using h)];rfl
 ·rw[if_neg h,List.filter_cons_of_neg (by simpa using h)];rfl
theorem jr{f:PF}{l:List (Int×Int)}{i:Nat}{p:Int×Int}:p∈bsQ f l i ↔ p∈l/\idxK (kf f p.2)=i:=by
 unfold bsQ
 rw[List.mem_reverse,List.mem_filter,decide_eq_true_eq]
section
variable {f f':PF} {th th':TF} {t ew ew':Int} {E:List Ent} {W:TW}
theorem Tb.qn(T:Tb f th t ew E W)(h20:f 20=none): ∀n,n<=31->((Qn W.bs n).map Prod.fst).Nodup
 | 0,_=>by rw[lY];exact List.nodup_nil
 | n+1,hn=>by
  obtain⟨ρ,r1,r2,r3⟩:=T.rol
  rw[lZ,List.map_append,List.nodup_append]
  refine⟨T.qn h20 n (by omega),(T.bkc n (by omega)).nodup h20,λu hu v hv e=>?_⟩
  obtain⟨p,hp,rfl⟩:=List.mem_map.1 hu
  obtain⟨q,hq,rfl⟩:=List.mem_map.1 hv
  obtain⟨i,hi,hp⟩:=jj.1 hp
  have h1:=r3 i (by omega) p hp
  have h2:=r3 n (by omega) q hq
  rw[e,h2]at h1;omega
theorem Tb.kf_ent(T:Tb f th t ew E W){y:Ent}(hy:y∈E):kf f y.e=y.k:=by unfold kf;rw[T.ent y hy];rfl
theorem Tb.relay(T:Tb f th t ew E W)(h20:f 20=none){Q:List (Int×Int)}(hQ: ∀p,p∈Q ↔ ∃i,i<31/\p∈W.bs i)(hQn:(Q.map Prod.fst).Nodup){ws:List Int}(hl:ws.length=31)(hc: ∀i,i<31->Chn f' (ws.getD i 20) (bsQ f Q i))(hf: ∀u,(∀p∈Q,p.1≠u)->f' u=f u)
  (h1:th' t=some (11,[8*(E.length:Int),W.ents,W.vb,ew'])) (h2:th' W.vb=some (1,ws)):
  Tb f' th' t ew' E ⟨W.vb,W.ents,ws,W.sp,bsQ f Q⟩/\jW E ⟨W.vb,W.ents,ws,W.sp,bsQ f Q⟩:=by
 obtain⟨ρ,r1,r2,r3⟩:=T.rol
 have rq: ∀p∈Q,2<=ρ p.1:=λp hp=>by
  obtain⟨i,hi,h⟩:=(hQ _).1 hp
  rw[r3 i hi p h];omega
 have hsp: ∀p∈W.sp,f' p.1=f p.1:=λp hp=>hf _ (λq hq e=>by have:=rq q hq;rw[e,r2 p hp]at this;omega)
 have hen: ∀y∈E,f' y.e=f y.e:=λy hy=>hf _ (λq hq e=>by have:=rq q hq;rw[e,r1 y hy]at this;omega)
 have hqn:Q.Nodup:=by
  have:=hQn
  unfold List.Nodup at*
  rw[List.pairwise_map]at this
  exact this.imp (λhne e=>hne (by rw[e]))
 have hone: ∀p∈Q,∀q∈Q,p.2=q.2->p=q:=λp hp q hq e=>by
  obtain⟨i,hi,hp⟩:=(hQ _).1 hp
  obtain⟨j,hj,hq⟩:=(hQ _).1 hq
  exact(T.bk1 i j hi hj p hp q hq e).2
 have hke: ∀p∈Q,∀y∈E,y.e=p.2->kf f p.2=y.k:=λp hp y hy e=>by rw[<-e];exact T.kf_ent hy
 classical
 refine⟨⟨h1,h2,T.ne,hl,T.spc.cong hsp,T.spe,hc,λy hy=>(hen y hy).trans (T.ent y hy),λi hi p hp=>?_,λy hy=>?_,λi j hi hj p hp q hq e=>?_,λi hi=>?_,T.en,T.keys,?_⟩,λi hi p hp y hy e=>?_⟩
 ·obtain⟨hp,_⟩:=jr.1 hp
  obtain⟨j,hj,hp⟩:=(hQ _).1 hp
  exact T.bke j hj p hp
 ·obtain⟨i,hi,p,hp,e⟩:=T.bkx y hy
  exact⟨idxK (kf f p.2),jH _,p,jr.2 ⟨(hQ _).2 ⟨i,hi,hp⟩,rfl⟩,e⟩
 ·obtain⟨hp,e1⟩:=jr.1 hp
  obtain⟨hq,e2⟩:=jr.1 hq
  have:=hone p hp q hq e
  subst this
  exact⟨e1.symm.trans e2,rfl⟩
 ·show(bsQ f Q i).Nodup
  unfold bsQ
  have h:=(hqn.filter (λp=>decide (idxK (kf f p.2)=i)))
  unfold List.Nodup at h⊢
  rw[List.pairwise_reverse]
  exact h.imp (λh=>h.symm)
 ·refine⟨λu=>if∃p∈Q,p.1=u then idxK (kf f ((f u).getD (0,0)).1)+2 else ρ u,λy hy=>?_,λp hp=>?_,λi hi p hp=>?_⟩
  ·simp only[]
   rw[if_neg (λ⟨p,hp,e⟩=>by have:=rq p hp;rw[e,r1 y hy]at this;omega)]
   exact r1 y hy
  ·simp only[]
   rw[if_neg (λ⟨q,hq,e⟩=>by have:=rq q hq;rw[e,r2 p hp]at this;omega)]
   exact r2 p hp
  ·obtain⟨hp,e⟩:=jr.1 hp
   simp only[]
   rw[if_pos ⟨p,hp,rfl⟩]
   obtain⟨j,hj,hpj⟩:=(hQ _).1 hp
   obtain⟨d,hd⟩:=(T.bkc j hj).some p hpj
   rw[hd]
   show idxK (kf f p.2)+2=i+2
   rw[e]
 ·obtain⟨hp,e1⟩:=jr.1 hp
  rw[<-hke p hp y hy e];exact e1
end

theorem TF.upd_self{th:TF}{w:Int}{p:Int×List Int}(h:th w=some p):th.upd w p=th:=by
 funext u
 unfold TF.upd
 split
 ·rename_i e;rw[e,h]
 ·rfl
theorem rI{bs:Nat->List (Int×Int)}(n:Nat):(Qn bs (n+1)).length=(Qn bs n).length+(bs n).length:=by rw[lZ,List.length_append]
theorem sG{bs:Nat->List (Int×Int)}{n m:Nat}(h:n<=m):(Qn bs n).length<=(Qn bs m).length:=by
 induction m with
 | zero=>rw[show n=0 by omega];exact Nat.le_refl _
 | succ m ih=>
  by_cases e:n=m+1
  ·rw[e];exact Nat.le_refl _
  ·rw[rI];have:=ih (by omega);omega
theorem lR{l m:List Int}(hn:l.Nodup)(h: ∀a∈l,a∈m):l.length<=m.length:=by
 induction l generalizing m with
 | nil=>exact Nat.zero_le _
 | cons a l ih=>
  rw[List.nodup_cons]at hn
  have ha:=h a (by simp)
  have:=ih (m:=m.erase a) hn.2 (λb hb=>by
   have hb':=h b (by simp[hb])
   exact(List.mem_erase_of_ne (λe=>hn.1 (by rw[<-e];exact hb))).2 hb')
  rw[List.length_erase_of_mem ha]at this
  have:0<m.length:=List.length_pos_of_mem ha
  simp only[List.length_cons];omega
section
variable {f f':PF} {th th':TF} {t ew ew':Int} {E:List Ent} {W:TW}
theorem Tb.qlen(T:Tb f th t ew E W)(h20:f 20=none):(Qn W.bs 31).length<=E.length:=by
 have hn:((Qn W.bs 31).map Prod.snd).Nodup:=by
  have h:=T.qn h20 31 (Nat.le_refl _)
  unfold List.Nodup at h⊢
  rw[List.pairwise_map]at h⊢
  refine List.Pairwise.imp_of_mem (λ{a b} ha hb hne e=>hne ?_) h
  obtain⟨i,hi,ha⟩:=jj.1 ha
  obtain⟨j,hj,hb⟩:=jj.1 hb
  rw[(T.bk1 i j hi hj a ha b hb e).2]
 have:=lR (m:=E.map Ent.e) hn (λa ha=>by
  obtain⟨p,hp,rfl⟩:=List.mem_map.1 ha
  obtain⟨i,hi,hp⟩:=jj.1 hp
  obtain⟨y,hy,e⟩:=T.bke i hi p hp
  rw[<-e];exact List.mem_map_of_mem hy)
 simpa using this
end
section
variable {J:Sp->(Int->Prop)->Prop} {H0 H H':zV} {b:Blk} {x x':Hp} {G G':Int->Prop} {f f':PF} {th th':TF} {t ew:Int} {E E':List Ent} {W W':TW}
def wsE(ws:List Int)(k:Nat):List Int:=List.replicate k 20++ws.drop k
theorem sH{ws:List Int}{k:Nat}(h:k<ws.length):(wsE ws k).set k 20=wsE ws (k+1):=by
 unfold wsE
 rw[List.set_append,if_neg (by simp),List.length_replicate,Nat.sub_self,List.drop_eq_getElem_cons h,List.set_cons_zero,List.replicate_succ',List.append_assoc];rfl
theorem tB{ws:List Int}{k:Nat}(h:k<ws.length):(wsE ws k)[k]?=some (ws.getD k 20):=by
 unfold wsE
 rw[List.getElem?_append_right (by simp),List.length_replicate,Nat.sub_self,List.getElem?_drop,Nat.add_zero,List.getD_eq_getElem?_getD,List.getElem?_eq_getElem h];rfl
theorem sI{ws:List Int}{k:Nat}(h:k<=ws.length):(wsE ws k).length=ws.length:=by unfold wsE;simp;omega
structure rJ (J:Sp->(Int->Prop)->Prop) (H0 H H':zV) (b:Blk) (x:Hp) (G:Int->Prop) (f:PF) (th:TF) (t:Int) (E:List Ent) (W:TW) (x':Hp) (f':PF) (th':TF) (W':TW):Prop where
 hs:HS J H0 H' b x' G f' th'
 tb:Tb f' th' t (8*x.ep) E W'
 right:jW E W'
 rest:Rest 0 x x'
 fr:Fr [b.sp,b.m,b.s] H H'
 far: ∀u,(∀p∈Qn W.bs 31,p.1≠u)->f' u=f u
 farT: ∀u,u≠t->u≠W.vb->th' u=th u
 vb:W'.vb=W.vb
 bs:W'.bs=bsQ f (Qn W.bs 31)
 sp:W'.sp=W.sp
 some: ∀u,f u≠none->f' u≠none
theorem sJ{ws:List Int}{j:Nat}(h:j<ws.length):(wvs ws)[j]?=Option.some (.int .u64 ws[j]):=by
 unfold wvs
 rw[List.getElem?_map,List.getElem?_eq_getElem h];rfl
set_option maxRecDepth 100000 in
set_option maxHeartbeats 2000000 in
theorem sK(O:JOK J)(S:HS J H0 H b x G f th)(T:Tb f th t ew E W)(hne:ew≠8*x.ep)(hep:0<=x.ep/\x.ep<1152921504606846976)(hfew:E.length<=900000):
  bW.C (some ⟨b.h,0,none⟩) t H (λ_ H'=> ∃x' f' th' W',rJ J H0 H H' b x G f th t E W x' f' th' W'):=by
 refine HC.via λR hR=>bW.link ?_
 unfold bW.pt zY
 intro c H1 hc hH1
 have e1:Ext H H1:=Ext.push' hH1
 have g1:=aF hc hH1
 have s1:H1.size=H.size+1:=by rw[hH1];simp
 refine⟨_,_,bA g1,_,_,bA g1,?_⟩
 refine HC.mono (ju (S.ext e1) T.tab (by decide) rfl) ?_
 rintro _ H2 ⟨rfl,e2⟩
 refine⟨_,rfl,bA (e2.get g1),?_⟩
 refine HC.mono (rG (S.ext (e1.trans e2)) hep) ?_
 rintro _ H3 ⟨rfl,e3⟩
 refine⟨_,rfl,?_⟩
 rw[if_neg hne]
 have e03:=(e1.trans e2).trans e3
 have hblt:=S.blt
 have h20:=S.pic.no20
 have hq:=T.qlen h20
 have h0s:=S.e.size
 have s3:=(e2.trans e3).size
 have g3:=(e2.trans e3).get g1
 have hcb:c ∉ [b.sp,b.m,b.s]:=λh=>by
  have:=hblt c (by simp at h;simp[Blk.all];omega)
  omega
 have hsb: ∀j∈[b.sp,b.m,b.s],j∈b.all:=λj hj=>by simp at hj;simp[Blk.all];omega
 refine⟨λB n C i A=> ∃(k:Nat) (x':Hp),i=k/\k<=31/\n=(Qn W.bs k).length/\HS J H0 A b x' G f (th.upd W.vb (1,wsE W.ws k))/\Own A 31 1 B n C (wvs ((Qn W.bs k).map Prod.fst))/\(∀j∈blks B,H3.size<=j)/\Rest 0 x x'/\Fr [b.sp,b.m,b.s] H3 A,λ_ _ _ i _=>(31-i).toNat,
  ⟨0,x,rfl,by omega,by rw[lY];rfl,by rw[show wsE W.ws 0=W.ws from rfl,TF.upd_self T.vec];exact S.ext e03,by rw[lY];exact iS,by simp,Rest.refl _,Fr.refl _ _⟩,?_⟩
 rintro B n C i A ⟨k,x1,rfl,hk,rfl,SA,hO,hB,r1,frA⟩
 have gA:=frA.get hcb g3
 have zA:=frA.size
 have htk:(th.upd W.vb (1,wsE W.ws k)) t=some (11,[8*(E.length:Int),W.ents,W.vb,ew]):=(TF.upd_ne th _ T.ne).trans T.tab
 by_cases hlt:(k:Int)<31
 ·rw[if_pos hlt]
  have hkN:k<31:=by omega
  have hd:((31:Int)-((k:Int)+1)).toNat< ((31:Int)-(k:Int)).toNat:=by omega
  rw[w64 (n:=(k:Int)+1) (by omega)]
  refine⟨_,_,bA gA,_,_,bA gA,?_⟩
  refine HC.mono (j4 SA htk rfl (TF.upd_at _ _ _) (by omega) (by rw[show((k:Nat):Int).toNat=k by omega];exact tB (by rw[T.len];exact hkN))) ?_
  rintro _ H5 ⟨rfl,e5⟩
  refine⟨_,rfl,bA (e5.get gA),?_⟩
  refine HC.mono lX ?_
  rintro v H6 ⟨p,q,rfl,gp,gq,hpq,hp,hq',e6⟩
  refine⟨rfl,?_⟩
  have z5:=e5.size
  have hql:=sG (bs:=W.bs) (n:=k+1) (m:=31) (by omega)
  have hqk:=rI (bs:=W.bs) k
  have e56:=e5.trans e6
  refine HC.mono (oO (SA.ext e56) (T.bkc k hkN) gp gq hpq ⟨by omega,λh=>by have:=hblt q h;omega⟩ (hO.ext e56) (λj hj=>?_) (by omega)) ?_
  ·have h1:=hB j hj
   have h2:=hO.lt j hj
   exact⟨by omega,λh=>by have:=hblt j h;omega,by omega,by omega⟩
  rintro _ H7 ⟨B',c',rfl,ho7,hB7,S7,fr7⟩
  have z6:=e6.size
  have z7:=fr7.size
  have hlo: ∀j∈q::blks B,H3.size<=j:=λj hj=>by
   rcases List.mem_cons.1 hj with h | h
   ·omega
   ·exact hB j h
  have g7:=fr7.get (λh=>by have:=hlo c h;omega) (e56.get gA)
  refine⟨_,_,_,rfl,_,_,bA g7,?_⟩
  refine HC.mono (jp O S7 htk rfl (TF.upd_at _ _ _) (by omega) (by rw[sI (by rw[T.len];omega),T.len];omega) iN (O.nil S7.j)) ?_
  rintro _ H8 ⟨x2,S8,r2,fr8⟩
  have S8':=S8
  rw[TF.upd_upd,show((k:Nat):Int).toNat=k by omega,sH (by rw[T.len];exact hkN)]at S8'
  refine⟨⟨k+1,x2,by omega,by omega,by rw[hqk],S8',?_,λj hj=>?_,r1.trans r2,?_⟩,hd⟩
  ·have ho8:=ho7.keep fr8 (λj hj h=>by
    have hb:=hblt j (hsb j h)
    rcases hB7 j hj with h' | h'
    ·have:=hB j h';omega
    ·omega)
   have e:(Qn W.bs (k+1)).map Prod.fst=(Qn W.bs k).map Prod.fst++(W.bs k).map Prod.fst:=by rw[lZ,List.map_append]
   rw[e]
   exact ho8
  ·rcases hB7 j hj with h' | h'
   ·exact hB j h'
   ·omega
  ·refine((frA.trans e56.fr).trans' fr7 (λj hj _=>hj) (λj hj hl=>?_)).trans fr8
   have:=hlo j hj;omega
 rw[if_neg hlt]
 have hk31:k=31:=by omega
 subst hk31
 have hws0:wsE W.ws 31=List.replicate 31 20:=by unfold wsE;rw[List.drop_of_length_le (by rw[T.len];exact Nat.le_refl _),List.append_nil]
 rw[hws0]at SA htk
 have hQ:=T.qn h20 31 (Nat.le_refl _)
 have hQB: ∀p∈Qn W.bs 31,∃d,f p.1=some (p.2,d):=λp hp=>by
  obtain⟨i,hi,hp⟩:=jj.1 hp
  exact(T.bkc i hi).some p hp
 have hQE: ∀p∈Qn W.bs 31,∃y∈E,y.e=p.2:=λp hp=>by
  obtain⟨i,hi,hp⟩:=jj.1 hp
  exact T.bke i hi p hp
 obtain⟨ρ,ro1,ro2,ro3⟩:=T.rol
 have hne2: ∀p∈Qn W.bs 31,∀y∈E,y.e≠p.1:=λp hp y hy e=>by
  obtain⟨i,hi,hp⟩:=jj.1 hp
  have:=ro3 i hi p hp
  rw[<-e,ro1 y hy]at this;omega
 have hrel:=λ{f':PF} {th':TF} {ew':Int} {ws:List Int} (hl:ws.length=31) (hc: ∀i,i<31->Chn f' (ws.getD i 20) (bsQ f (Qn W.bs 31) i)) (hf: ∀u,(∀p∈Qn W.bs 31,p.1≠u)->f' u=f u) (h1:th' t=some (11,[8*(E.length:Int),W.ents,W.vb,ew'])) (h2:th' W.vb=some (1,ws))=>T.relay h20 (λp=>jj) hQ hl hc hf h1 h2
 generalize hQl:Qn W.bs 31=l at*
 refine⟨λi A'=> ∃(k:Nat) (x':Hp) (f':PF) (ws:List Int),i=k/\k<=l.length/\HS J H0 A' b x' G f' (th.upd W.vb (1,ws))/\ws.length=31/\(∀i,i<31->Chn f' (ws.getD i 20) (bsQ f (l.take k) i))/\(∀u,(∀p∈l.take k,p.1≠u)->f' u=f u)/\(∀u,f u≠none->f' u≠none)/\Rest 0 x x'/\Fr [b.sp,b.m,b.s] A A',λi _=>(l.length-i).toNat,
  ⟨0,x1,f,List.replicate 31 20,rfl,by omega,SA,by simp,λi hi=>?_,λ_ _=>rfl,λ_ h=>h,r1,Fr.refl _ _⟩,?_⟩
 ·show(List.replicate 31 (20:Int)).getD i 20=20
  rw[List.getD_eq_getElem?_getD,List.getElem?_replicate,if_pos hi];rfl
 rintro _ A2 ⟨k,x2,f2,ws,rfl,hk2,S2,hwl,hch,hfar,hsome,r2,fr2⟩
 have g2:=fr2.get hcb gA
 have ht2:(th.upd W.vb (1,ws)) t=some (11,[8*(E.length:Int),W.ents,W.vb,ew]):=(TF.upd_ne th _ T.ne).trans T.tab
 by_cases hlt2:(k:Int)< (l.length:Int)
 ·rw[if_pos hlt2]
  have hkN:k<l.length:=by omega
  have hd:((l.length:Int)-((k:Int)+1)).toNat< ((l.length:Int)-(k:Int)).toNat:=by omega
  rw[w64 (n:=(k:Int)+1) (by omega)]
  have z2:=fr2.size
  have hO2:=hO.keep fr2 (λj hj h=>by have:=hblt j (hsb j h);have:=hB j hj;omega)
  obtain⟨a,ha,hat1⟩:=hO2.at (sJ (ws:=l.map Prod.fst) (j:=k) (by simpa using hkN))
  rw[List.getElem_map]at hat1
  have hmem:=List.getElem_mem hkN
  have htk2:l.take (k+1)=l.take k++[l[k]]:=List.take_succ_eq_append_getElem hkN
  obtain⟨d,hfp⟩:=hQB _ hmem
  obtain⟨y,hy,hye⟩:=hQE _ hmem
  have hnot: ∀p∈l.take k,p.1≠l[k].1:=λp hp e=>by
   obtain⟨j,hj,rfl⟩:=List.getElem_of_mem hp
   rw[List.length_take]at hj
   rw[List.getElem_take]at e
   have:=(List.getElem_inj (i:=j) (j:=k) (h₀:=by rw[List.length_map];omega) (h₁:=by rw[List.length_map];exact hkN) hQ).1 (by rw[List.getElem_map,List.getElem_map];exact e)
   omega
  have hkf:kf f l[k].2=y.k:=by rw[<-hye];exact T.kf_ent hy
  generalize l[k]=p at*
  have hf2p:f2 p.1=some (p.2,d):=(hfar _ hnot).trans hfp
  have hf2e:f2 p.2=some (y.k,y.v):=by
   rw[hfar p.2 (λq hq e=>hne2 q (List.mem_of_mem_take hq) y hy (hye.trans e.symm)),<-hye];exact T.ent y hy
  have hkw:aG y.k/\G y.k:=by
   have ge:=(O.pr S2.j (S2.pic.prs _ _ _ hf2p) (S2.gf _ _ hf2p)).1
   have h3:=S2.pic.prs _ _ _ hf2e
   refine⟨?_,(O.pr S2.j h3 ge).1⟩
   rw[<-h3.car]
   exact((O.ok S2.j).mem.seg _).words _
  have hi:=jH y.k
  refine⟨a,ha,⟨by omega,hlt2⟩,_,by rw[show Int.toNat (k:Int)*1=k by omega];exact hat1,_,_,bA g2,?_⟩
  refine HC.mono (tl S2 hf2p hf2e) ?_
  rintro _ H10 ⟨rfl,e10⟩
  refine⟨_,_,rfl,?_⟩
  refine HC.mono (lW hkw.1) ?_
  rintro _ H11 ⟨rfl,rfl⟩
  have g11:=e10.get g2
  refine⟨_,rfl,_,aK g11,_,_,bA g11,?_⟩
  have hwi:ws[((idxK y.k:Nat):Int).toNat]?=some (ws.getD (idxK y.k) 20):=by
   rw[show((idxK y.k:Nat):Int).toNat=idxK y.k by omega,List.getD_eq_getElem?_getD,List.getElem?_eq_getElem (by rw[hwl];exact hi)];rfl
  have S11:=S2.ext e10
  refine HC.mono (j4 S11 ht2 rfl (TF.upd_at _ _ _) (by omega) hwi) ?_
  rintro _ H12 ⟨rfl,e12⟩
  refine⟨_,rfl,rowO (aK (e12.get g11)),?_⟩
  have S12:=S11.ext e12
  have hchi:=hch _ hi
  have hbw:aG (ws.getD (idxK y.k) 20)/\G (ws.getD (idxK y.k) 20):=by
   cases hl:bsQ f (l.take k) (idxK y.k)with
   | nil=>
    rw[hl]at hchi
    have h:ws.getD (idxK y.k) 20=20:=hchi
    rw[h];exact⟨iN,O.nil S12.j⟩
   | cons q l'=>
    rw[hl]at hchi
    obtain⟨h1,d',h2,_⟩:=hchi
    rw[h1]
    exact⟨(S12.pic.prs _ _ _ h2).word,S12.gf _ _ h2⟩
  refine HC.mono (S12.setCdr_c O hf2p hbw.1 hbw.2) ?_
  rintro _ H13 ⟨rfl,x3,S13,r3,fr13⟩
  have g13:=fr13.get hcb (e12.get g11)
  refine⟨_,rfl,_,_,bA g13,?_⟩
  refine HC.mono (jp O S13 ht2 rfl (TF.upd_at _ _ _) (by omega) (by rw[hwl];omega) (S13.pic.prs _ _ _ (PF.upd_at f2 p.1 _)).word (S13.gf _ _ (PF.upd_at f2 p.1 _))) ?_
  rintro _ H14 ⟨x4,S14,r4,fr14⟩
  rw[TF.upd_upd,show((idxK y.k:Nat):Int).toNat=idxK y.k by omega]at S14
  have hmemQ: ∀i,∀q∈bsQ f (l.take k) i,q.1≠p.1:=λi q hq=>hnot q (jr.1 hq).1
  refine⟨⟨k+1,x4,_,_,by omega,by omega,S14,by rw[List.length_set];exact hwl,λi hi'=>?_,λu hu=>?_,λu hu=>?_,(r2.trans r3:Rest 0 x x3).trans r4,((fr2.trans (e10.trans e12).fr).trans fr13).trans fr14⟩,hd⟩
  ·have eset:(ws.set (idxK y.k) p.1).getD i 20=if idxK y.k=i then p.1 else ws.getD i 20:=by
    rw[List.getD_eq_getElem?_getD,List.getElem?_set]
    by_cases q:idxK y.k=i
    ·rw[if_pos q,if_pos q,if_pos (by rw[hwl];exact hi)];rfl
    ·rw[if_neg q,if_neg q,<-List.getD_eq_getElem?_getD]
   rw[htk2,rH,hkf,eset]
   by_cases q:idxK y.k=i
   ·rw[if_pos q,if_pos q]
    refine .cons (PF.upd_at f2 p.1 _) ?_
    rw[<-q]
    exact hchi.upd (hmemQ _)
   ·rw[if_neg q,if_neg q]
    exact(hch i hi').upd (hmemQ _)
  ·rw[htk2]at hu
   rw[PF.upd_ne f2 _ (λe=>hu p (by simp) e.symm)]
   exact hfar u (λq hq=>hu q (List.mem_append_left _ hq))
  ·by_cases q:u=p.1
   ·rw[q,PF.upd_at];simp
   ·rw[PF.upd_ne f2 _ q];exact hsome u hu
 rw[if_neg hlt2]
 have hkl:k=l.length:=by omega
 subst hkl
 rw[List.take_length]at hch hfar
 refine⟨_,_,bA g2,_,_,bA g2,?_⟩
 have hep2:x2.ep=x.ep:=r2.ep
 refine HC.mono (rG S2 (by rw[hep2];exact hep)) ?_
 rintro _ H15 ⟨rfl,e15⟩
 rw[hep2]
 refine⟨_,rfl,bA (e15.get g2),?_⟩
 have S15:=S2.ext e15
 have w8:aG (8*x.ep):=⟨by omega,by omega⟩
 refine HC.mono (mC O S15 ht2 (by decide) (by simp) w8 (O.fix S15.j _)) ?_
 rintro _ H16 ⟨x5,S16,r5,fr16⟩
 have h1:((th.upd W.vb (1,ws)).upd t (11,([8*(E.length:Int),W.ents,W.vb,ew].set (3:Int).toNat (8*x.ep)))) t=some (11,[8*(E.length:Int),W.ents,W.vb,8*x.ep]):=(TF.upd_at _ _ _).trans rfl
 have h2:((th.upd W.vb (1,ws)).upd t (11,([8*(E.length:Int),W.ents,W.vb,ew].set (3:Int).toNat (8*x.ep)))) W.vb=some (1,ws):=(TF.upd_ne _ _ (λe=>T.ne e.symm)).trans (TF.upd_at _ _ _)
 obtain⟨T2,R2⟩:=hrel hwl hch hfar h1 h2
 refine hR _ _ ⟨x5,f2,_,_,⟨S16,T2,R2,r2.trans r5,?_,?_,λu h1 h2=>(TF.upd_ne _ _ h1).trans (TF.upd_ne _ _ h2),rfl,by rw[hQl],rfl,hsome⟩⟩
 ·exact((e03.fr.trans frA).trans (fr2.trans e15.fr)).trans fr16
 ·rw[hQl];exact hfar
end
