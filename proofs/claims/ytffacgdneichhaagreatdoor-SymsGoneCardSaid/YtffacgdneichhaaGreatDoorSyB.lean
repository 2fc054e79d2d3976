/-
 Symbols on a heap that is looked after: interning. Proves nothing of any one statement.
-/
import Derived.Test.YtffacgdneichhaaGreatDoorSyms
import Derived.Test.YtffacgdneichhaaGreatDoorTabR
import Derived.Test.YtffacgdneichhaaGreatDoorColS
set_option linter.unusedVariables false
set_option linter.unusedSimpArgs false
namespace Go.Proofs.YtffacgdneichhaaGreatDoor
open Go

theorem hZ(s:ByteArray):s.toList=(ByteArray.mk #[]).toList ↔ s.size=0:=by
 rw[Lib.toList_data,Lib.toList_data]
 show s.data.toList=[] ↔ s.data.size=0
 rw[<-Array.length_toList,List.length_eq_zero_iff]
theorem ot(s:ByteArray):(aX s).length<=s.size:=by have:=jG s (s.size-0) 0;show(runesFrom s (s.size-0) 0).length<=s.size;omega
def fo(s:ByteArray):Int:=if Lib.validD s.data.toList=false\/s.size=0 then 2 else if 62< (aX s).length then 1 else 0
theorem pP{s:ByteArray}(h:fo s=0):Lib.validD s.data.toList=true/\s.size≠0/\(aX s).length<=62:=by
 unfold fo at h
 by_cases h1:Lib.validD s.data.toList=false\/s.size=0
 ·rw[if_pos h1]at h;exact absurd h (by decide)
 rw[if_neg h1]at h
 by_cases h2:62< (aX s).length
 ·rw[if_pos h2]at h;exact absurd h (by decide)
 exact⟨by cases hv:Lib.validD s.data.toList<;>simp_all,λq=>h1 (.inr q),by omega⟩
structure ou (J:Sp->(Int->Prop)->Prop) (H0 H H':zV) (b:Blk) (x x':Hp) (G G':Int->Prop) (f:PF) (th:TF) (syl:List Int) (name:ByteArray) (w s:Int):Prop where
 hs:HS J H0 H' b x' G' f ((th.upd s (2,aX name)).upd w (4,[s]))
 sy:SyAt H0 H' b x' (syl++[w])
 fs:th s=none
 fw:th w=none
 ne:s≠w
 en:x'.en=x.en
 ep:x'.ep=x.ep
 gg: ∀v,G v->G' v
 word:aJ w
 fr:Fr (b.all++syB x.sy) H H'
 blk: ∀j∈syB x'.sy,j∈syB x.sy\/H.size<=j
set_option maxRecDepth 100000 in
theorem rg{J:Sp->(Int->Prop)->Prop}{H0 H:zV}{b:Blk}{x:Hp}{G:Int->Prop}{f:PF}{th:TF}{syl:List Int}{name:ByteArray}(O:JOK J)(S:HS J H0 H b x G f th)(Sy:SyAt H0 H b x syl)(hl:syl.length<=100000)(T8:kn H)(hs:name.size<=1000000):
  bU.C (some ⟨b.h,0,none⟩) name H (λv H'=>(fo name=2/\v=.tuple #[.int .u64 0,.int .i64 1]/\Ext H H')\/(fo name=1/\v=.tuple #[.int .u64 0,.int .i64 6]/\Ext H H')\/
   (fo name=0/\((∃w,fi x.sp.mem syl name=some w/\v=.tuple #[.int .u64 w,.int .i64 0]/\Ext H H')\/
    (fi x.sp.mem syl name=none/\((∃w s x' G',v=.tuple #[.int .u64 w,.int .i64 0]/\ou J H0 H H' b x x' G G' f th syl name w s)\/
     (∃x' G',v=.tuple #[.int .u64 0,.int .i64 2]/\HS J H0 H' b x' G' f th/\x'.sy=x.sy/\x'.en=x.en/\x'.ep=x.ep/\(∀v,G v->G' v)/\Fr [b.sp,b.m,b.s] H H')))))):=by
 obtain⟨B,c,e,o,hB,hw⟩:=id Sy
 refine HC.via λR hR=>bU.link ?_
 unfold bU.pt
 by_cases h0:name.size=0
 ·rw[if_pos ((hZ name).2 h0)]
  exact hR _ _ (.inl ⟨by unfold fo;rw[if_pos (.inr h0)],rfl,Ext.refl _⟩)
 rw[if_neg (λh=>h0 ((hZ name).1 h))]
 refine HC.mono (mt T8 hs) ?_
 rintro _ H1 ⟨rfl,e1⟩
 refine⟨_,rfl,?_⟩
 cases hv:Lib.validD name.data.toList with
 | false=>
  rw[if_neg (by decide)]
  exact hR _ _ (.inl ⟨by unfold fo;rw[if_pos (.inl hv)],rfl,e1⟩)
 | true=>
 rw[if_pos rfl]
 have hrl:=ot name
 refine HC.mono (jv (by omega)) ?_
 rintro _ H2 ⟨rfl,e2⟩
 refine⟨_,rfl,?_⟩
 have hn: ¬(Lib.validD name.data.toList=false\/name.size=0):=by rw[hv];simp[h0]
 by_cases h62:((aX name).length:Int)>62
 ·rw[if_pos h62]
  exact hR _ _ (.inr (.inl ⟨by unfold fo;rw[if_neg hn,if_pos (by omega)],rfl,e1.trans e2⟩))
 rw[if_neg h62]
 have hg0:fo name=0:=by unfold fo;rw[if_neg hn,if_neg (by omega)]
 have e12:=e1.trans e2
 have S2:=S.ext e12
 obtain⟨-,hp2,-⟩:=S2.view.inv
 refine HC.mono (iG S2.view (by rw[show(Addr.mk b.h 0 none).add 1=⟨b.h,1,none⟩from rfl,hp2.syAt,e]) rfl (o.ext e12).src (by omega) hw) ?_
 rintro _ H3 ⟨rfl,e3⟩
 rw[show mof (some (b,x))=x.sp.mem from rfl]
 refine⟨_,_,rfl,?_⟩
 cases hf:fi x.sp.mem syl name with
 | some w=>
  rw[if_pos (by rfl)]
  exact hR _ _ (.inr (.inr ⟨hg0,.inl ⟨w,hf,rfl,e12.trans e3⟩⟩))
 | none=>
 rw[if_neg (by decide),onPtr_some]
 have e13:=e12.trans e3
 have S3:=S.ext e13
 have z3:=e13.size
 have full: ∀{A:zV} {x':Hp} {G':Int->Prop},HS J H0 A b x' G' f th->x'.sy=x.sy->x'.en=x.en->x'.ep=x.ep->(∀v,G v->G' v)->Fr [b.sp,b.m,b.s] H A->R (.tuple #[.int .u64 0,.int .i64 2]) A:=λh1 h2 h3 h4 h5 h6=>
  hR _ _ (.inr (.inr ⟨hg0,.inr ⟨hf,.inr ⟨_,_,rfl,h1,h2,h3,h4,h5,h6⟩⟩⟩))
 refine HC.mono (S3.stringE_c O (s:=name) (by omega)) ?_
 rintro v H4 (⟨s,x1,G1,rfl,S4,r1,gg1,gs,fs,ws,s3,fr4⟩ | ⟨rfl,S4,fr4⟩)
 case inr=>
  refine⟨_,_,rfl,?_⟩
  rw[if_neg (by decide)]
  exact full S4 rfl rfl rfl (λ_ h=>h) (e13.fr.trans fr4)
 refine⟨_,_,rfl,?_⟩
 rw[if_pos rfl]
 intro c5 H5 hc5 hH5
 have e5:Ext H4 H5:=Ext.push' hH5
 have S5:=S4.ext e5
 refine HC.mono (jP S5.view (dH (aL hc5 hH5) _ 0 0 (λj hj=>by simp[wvs])) (ws:=[s]) rfl (by simpa using ws) (by decide) (by decide) (O.cnt S5.j) (by simp)) ?_
 rintro _ H6 ⟨rfl,V6,fr6⟩
 rcases S5.madeE O (kind:=4) (by decide) (by simp) (by simpa using ws) (λ_ w hw=>by simp at hw;rw[hw];exact gs) V6 fr6 with⟨w,x2,G2,h1,S6,r2,gg2,gw,fw,ww,w3,_,_,fr6'⟩ | ⟨h1,S6,fr6'⟩
 case inr=>
  rw[h1]
  refine⟨_,_,rfl,?_⟩
  rw[if_neg (by decide)]
  exact full (S6.less (λ_ _ e=>e) (λu p e=>(TF.upd_ne th _ (λq=>by rw[q,fs]at e;cases e)).trans e)) r1.1 r1.2.1 r1.2.2.1 gg1 (e13.fr.trans (fr4.trans (e5.fr.trans fr6')))
 rw[h1]
 refine⟨_,_,rfl,?_⟩
 rw[if_pos rfl]
 have rr:Rest 2 x x2:=r1.trans r2
 have hsy:x2.sy=.slice B syl.length c:=rr.1.trans e
 obtain⟨-,hp6,-⟩:=S6.view.inv
 refine⟨B,syl.length,c,by rw[show(Addr.mk b.h 0 none).add 1=⟨b.h,1,none⟩from rfl,hp6.syAt,hsy],λb7 H7 hb7 hH7=>?_⟩
 have e7:Ext H6 H7:=Ext.push' hH7
 have hne:s≠w:=λq=>by rw[<-q,TF.upd_at]at fw;cases fw
 have fw':th w=none:=by rw[TF.upd_ne th _ (λq=>hne q.symm)]at fw;exact fw
 have sub: ∀j∈[b.sp,b.m,b.s],j∈b.all:=λj hj=>by simp at hj;simp[Blk.all];omega
 have hBn: ∀j∈blks B,j ∉ [b.sp,b.m,b.s]:=λj hj h=>(hB j hj).1 (sub j h)
 have z4:=fr4.size
 have z5:=e5.size
 have z6:=fr6'.size
 have z7:=e7.size
 have o7:=((((o.ext e13).keep fr4 hBn).ext e5).keep fr6' hBn).ext e7
 have hblt:=S.blt
 have hBlt:=o.lt
 have h0s:=S.e.size
 refine eh (ys:=wvs [w]) o7 (dH (aL hb7 hH7) _ 0 0 (λj hj=>by simp)) (by simp) (gV _) rfl (by omega) ?_
 intro p' c' H8 o8 f8 hnew
 have S8:=(S6.ext e7).keep f8 (λj hj=>(hB j hj).2) (λj hj=>(hB j hj).1)
 obtain⟨-,hp8,-⟩:=S8.view.inv
 obtain⟨c9,h9,f9⟩:=hp8.putSy (.slice p' (syl.length+1) c')
 rw[show(Addr.mk b.h 0 none).add 1=⟨b.h,1,none⟩from rfl]
 refine⟨c9,λH9 hH9=>?_⟩
 rw[<-hH9]at h9 f9
 have hbh:b.h∈b.all:=by simp[Blk.all]
 have hp': ∀i∈blks p',i ∉ b.all/\H0.size<=i:=λi hi=>by
  rcases hnew i hi with h | h
  ·exact hB i h
  ·exact⟨λhk=>by have:=hblt i hk;omega,by omega⟩
 refine hR _ _ (.inr (.inr ⟨hg0,.inr ⟨hf,.inl ⟨w,s,{x2 with sy:=.slice p' (syl.length+1) c'},G2,rfl,?_⟩⟩⟩))
 refine⟨⟨S8.e.fr_trans f9 (λj hj=>by simp at hj;rw[hj];exact S.hb _ hbh),.real h9 (O.ok S8.j),S8.j,S8.pic,S8.gf,S8.gt,S8.hb⟩,⟨p',c',by simp,?_,hp',λu hu=>?_⟩,fs,fw',hne,rr.2.1,rr.ep,λv h=>gg2 v (gg1 v h),ww,?_,λj hj=>?_⟩
 ·have:=o8.keep f9 (λi hi h=>by simp at h;subst h;exact(hp' _ hi).1 hbh)
  simpa[wvs]using this
 ·rcases List.mem_append.1 hu with h | h
  ·exact hw u h
  ·simp at h;subst h;exact ww
 ·have hS:syB x.sy=blks B:=by rw[e];rfl
  rw[hS]
  have a:Fr (b.all++blks B) H H7:=((e13.fr.trans (fr4.mono (λi hi _=>List.mem_append_left _ (sub i hi)))).trans e5.fr).trans ((fr6'.mono (λi hi _=>List.mem_append_left _ (sub i hi))).trans e7.fr)
  exact(a.trans (f8.mono (λi hi _=>List.mem_append_right _ hi))).trans (f9.mono (λi hi _=>by simp at hi;rw[hi];exact List.mem_append_left _ hbh))
 ·have hS:syB x.sy=blks B:=by rw[e];rfl
  rw[hS]
  have hj:j∈blks p':=hj
  rcases hnew j hj with h | h
  ·exact .inl h
  ·right;omega

def J3(c:Int)(s:Sp)(G:Int->Prop):Prop:=J2 c s G/\ ∀x,s.mem.used x->s.mem.gAt x<=3
theorem tc{c:Int}(hc:c<4611686018427387904):JOK (J3 c):=by
 have O:=ta hc
 have st: ∀{s:Sp} {a v:Int},(∀x,s.mem.used x->s.mem.gAt x<=3)-> ∀x,(s.mem.store a v).1.used x->(s.mem.store a v).1.gAt x<=3:=λ{s a v} h x hx=>by
  have e:(s.mem.store a v).1.gAt x=s.mem.gAt x:=(Mem.store_seg _).1
  rw[e]
  exact h x (Mem.store_used.1 hx)
 refine⟨λh=>O.ok h.1,λh=>O.even h.1,λh=>O.cnt h.1,λh=>O.imm h.1,λh p gw hv gv hi=>⟨O.half h.1 p gw hv gv hi,st h.2⟩,λh t gw hv gv hi=>⟨O.field h.1 t gw hv gv hi,st h.2⟩,λh=>O.pr h.1,λh=>O.th h.1,λ{s G kind tag ws} h hk hw hg=>?_⟩
 obtain⟨G',j1,j2,j3⟩:=O.put h.1 hk hw hg
 refine⟨G',⟨j1,λx hx=>?_⟩,j2,j3⟩
 by_cases hal:(s.alloc 0 kind ws.length).2.2=0
 ·obtain⟨ok2,gr⟩:=Sp.alloc_ok (O.ok h.1) hal
  have e:(s.put kind tag ws).1.mem=(s.alloc 0 kind ws.length).1.mem.sets (s.alloc 0 kind ws.length).2.1 ws:=by unfold Sp.put;rw[if_pos hal]
  have sm:=bD.sets ws (s.alloc 0 kind ws.length).1.mem (s.alloc 0 kind ws.length).2.1
  rw[e]at hx⊢
  have hx2:=sm.used.1 hx
  have eg:((s.alloc 0 kind ws.length).1.mem.sets (s.alloc 0 kind ws.length).2.1 ws).gAt x=(s.alloc 0 kind ws.length).1.mem.gAt x:=(sm.seg _).1
  rw[eg]
  rcases(gr.usedIff (by omega)).1 hx2 with hu | ⟨h1,h2⟩
  ·have:=((gr.heads (by omega)).seg _ hu.2.1.2.2).1
   unfold Mem.gAt
   rw[this];exact h.2 x hu
  ·obtain⟨a0,a1,a2⟩:=gr.addr
   unfold Mem.gAt
   rw[show(x / 64).toNat=((s.alloc 0 kind ws.length).2.1 / 64).toNat by omega,gr.new.2.1];decide
 ·have e:(s.put kind tag ws).1=s:=by unfold Sp.put;rw[if_neg hal]
  rw[e]at hx⊢;exact h.2 x hx
theorem rh{c:Int}{n:Nat}(hn:8<=n/\n<=1024)(hc:(n:Int)<=c):J3 c ⟨Mem.fresh n,λ_ _=>0⟩ (λv=>Good (Mem.fresh n) (λ_=>0) v):=
 ⟨qY hn hc,λx hx=>absurd rfl hx.2.1.2.2⟩

def fT(b:Blk)(held:List Int)(names:List ByteArray):List Value:=[.pointer (some ⟨b.h,0,none⟩)]++wvs held++names.map Value.string++[.slice none 0 0]
structure eJ (A:zV) (P:Nat) (b:Blk) (held:List Int) (names:List ByteArray):Prop where
 cell:A[P]?=some (.cells (fT b held names).toArray 39 (0,0))
 len:held.length=8
 lenN:names.length=8
section
variable {A A':zV} {P:Nat} {b:Blk} {held:List Int} {names:List ByteArray}
theorem eJ.keep{S:List Nat}(h:eJ A P b held names)(f:Fr S A A')(hS:P ∉ S):eJ A' P b held names:=⟨f.get hS h.cell,h.len,h.lenN⟩
theorem eJ.ext(h:eJ A P b held names)(e:Ext A A'):eJ A' P b held names:=⟨e.get h.cell,h.len,h.lenN⟩
theorem eJ.heap(h:eJ A P b held names):hat A (Addr.mk P 0 none)=some (.pointer (some ⟨b.h,0,none⟩)):=by
 rw[aT h.cell];rfl
theorem sM{i:Nat}(hi:i<held.length):(fT b held names)[1+i]?=some (.int .u64 held[i]):=by
 unfold fT
 rw[List.append_assoc,List.append_assoc,List.getElem?_append_right (by simp),List.getElem?_append_left (by simp;omega)]
 simp[hi]
theorem sO{i:Nat}(hh:held.length=8)(hi:i<names.length):(fT b held names)[9+i]?=some (.string names[i]):=by
 unfold fT
 rw[List.append_assoc,List.append_assoc,List.getElem?_append_right (by simp;omega),List.getElem?_append_right (by simp;omega),List.getElem?_append_left (by simp;omega)]
 simp[hi,hh]
theorem eJ.heldAt(h:eJ A P b held names){i:Nat}(hi:i<held.length):hat A (((Addr.mk P 0 none).add 1).add (i*1))=some (.int .u64 held[i]):=by
 rw[gW,Nat.mul_one,gq h.cell]
 simp only[List.getElem?_toArray]
 exact sM hi
theorem eJ.name(h:eJ A P b held names){i:Nat}(hi:i<names.length):hat A (((Addr.mk P 0 none).add 9).add (i*1))=some (.string names[i]):=by
 rw[gW,Nat.mul_one,gq h.cell]
 simp only[List.getElem?_toArray]
 exact sO h.len hi
theorem eJ.setH(h:eJ A P b held names){i:Nat}(hi:i<held.length)(w:Int):aI A (((Addr.mk P 0 none).add 1).add (i*1)) 0 1/\ ∀A',A'=aO A (((Addr.mk P 0 none).add 1).add (i*1)) [.int .u64 w] 0->eJ A' P b (held.set i w) names/\Fr [P] A A':=by
 rw[gW,Nat.mul_one]
 obtain⟨h1,h2⟩:=lk h.cell (1+i) (.int .u64 w) (by simp[fT];omega)
 refine⟨h1,λA' hA=>?_⟩
 obtain⟨g,f⟩:=h2 A' hA
 rw[List.setIfInBounds_toArray]at g
 have e:(fT b held names).set (1+i) (.int .u64 w)=fT b (held.set i w) names:=by
  unfold fT
  rw[List.append_assoc,List.append_assoc,List.set_append,if_neg (by simp),List.set_append,if_pos (by simp;omega),List.append_assoc,List.append_assoc]
  congr 2
  rw[wvs,wvs,List.map_set]
  congr 1
  simp
 rw[e]at g
 exact⟨⟨g,by rw[List.length_set];exact h.len,h.lenN⟩,f⟩
theorem eJ.setN(h:eJ A P b held names){i:Nat}(hi:i<names.length)(s:ByteArray):aI A (((Addr.mk P 0 none).add 9).add (i*1)) 0 1/\ ∀A',A'=aO A (((Addr.mk P 0 none).add 9).add (i*1)) [.string s] 0->eJ A' P b held (names.set i s)/\Fr [P] A A':=by
 rw[gW,Nat.mul_one]
 obtain⟨h1,h2⟩:=lk h.cell (9+i) (.string s) (by have:=h.len;simp[fT];omega)
 refine⟨h1,λA' hA=>?_⟩
 obtain⟨g,f⟩:=h2 A' hA
 rw[List.setIfInBounds_toArray]at g
 have hl:=h.len
 have e:(fT b held names).set (9+i) (.string s)=fT b held (names.set i s):=by
  unfold fT
  rw[List.append_assoc,List.append_assoc,List.set_append,if_neg (by simp),List.set_append,if_neg (by simp;omega),List.set_append,if_pos (by simp;omega),List.append_assoc,List.append_assoc]
  congr 3
  rw[List.map_set]
  congr 1
  simp;omega
 rw[e]at g
 exact⟨⟨g,hl,by rw[List.length_set];exact h.lenN⟩,f⟩
end
theorem Cel.sy(P:Nat)(b:Blk)(names:List ByteArray):Cel [P] ((Addr.mk P 0 none).add 1) (λA ws=>eJ A P b ws names):=by
 refine⟨λ{T A A' ws} h f hT=>h.keep f (hT P (by simp)),λ{A ws i} h hi=>h.heldAt hi,λ{A ws i} v h hi=>h.setH hi v,λ{A ws} h j hj=>?_⟩
 simp at hj
 rw[hj];exact bB h.cell

structure SyE where
 w:Int
 s:Int
 nm:ByteArray
structure SPl (c:Int) (H0 A:zV) (b:Blk) (x:Hp) (G:Int->Prop) (th:TF) (P:Nat) (held:List Int) (names:List ByteArray) (Ls:List SyE):Prop where
 hs:HS (J3 c) H0 A b x G (λ_=>none) th
 sy:SyAt H0 A b x (Ls.map SyE.w)
 ent: ∀e∈Ls,th e.w=some (4,[e.s])/\th e.s=some (2,aX e.nm)/\fo e.nm=0
 nod:(Ls.map SyE.nm).Nodup
 play:eJ A P b held names
 hold: ∀(i:Nat) (h1:i<held.length) (h2:i<names.length),(names[i].size=0/\held[i]=20)\/ ∃e∈Ls,e.nm=names[i]/\e.w=held[i]
 en:x.en=.slice none 0 0
 out:P ∉ b.all/\P ∉ syB x.sy/\H0.size<=P
section
variable {c:Int} {H0 A A':zV} {b:Blk} {x:Hp} {G:Int->Prop} {th:TF} {P:Nat} {held:List Int} {names:List ByteArray} {Ls:List SyE}
theorem nF{m:Mem}{w s:Int}{rs:List Int}(tw:cE m w 4 0 [s])(ts:cE m s 2 0 rs):ie m w=(gX rs,0):=by
 unfold ie
 have hg:m.get (w / 8+1+0)=s:=by have:=tw.get 0 (by simp);simpa using this
 rw[if_pos (tw.field_in ⟨by omega,by simp⟩),hg,if_pos ⟨ts.obj,ts.typ⟩,ts.words]
theorem SPl.name(S:SPl c H0 A b x G th P held names Ls){e:SyE}(he:e∈Ls):ie x.sp.mem e.w=(e.nm,0):=by
 obtain⟨h1,h2,h3⟩:=S.ent e he
 rw[nF (S.hs.pic.ths _ _ _ h1) (S.hs.pic.ths _ _ _ h2),oU (pP h3).1]
theorem SPl.one(S:SPl c H0 A b x G th P held names Ls){e e':SyE}(he:e∈Ls)(he':e'∈Ls)(h:e.nm=e'.nm):e=e':=by
 obtain⟨i,hi,rfl⟩:=List.getElem_of_mem he
 obtain⟨j,hj,rfl⟩:=List.getElem_of_mem he'
 have:i=j:=(List.getElem_inj (i:=i) (j:=j) (h₀:=by simpa using hi) (h₁:=by simpa using hj) S.nod).1 (by simpa using h)
 subst this;rfl
theorem SPl.oneW(S:SPl c H0 A b x G th P held names Ls){e e':SyE}(he:e∈Ls)(he':e'∈Ls)(h:e.w=e'.w):e=e':=by
 have h1:=S.name he
 rw[h,S.name he']at h1
 exact S.one he he' (congrArg Prod.fst h1).symm
theorem jf{s t:ByteArray}:s.toList=t.toList ↔ s=t:=by
 rw[Lib.toList_data,Lib.toList_data]
 exact⟨λh=>ByteArray.ext (Array.toList_inj.1 h),λh=>by rw[h]⟩
theorem SPl.is(S:SPl c H0 A b x G th P held names Ls){e:SyE}(he:e∈Ls)(name:ByteArray):ju x.sp.mem name e.w=decide (e.nm=name):=by
 unfold ju
 rw[S.name he]
 by_cases h:e.nm=name
 ·rw[zX h,zX (jf.2 h)];rfl
 ·rw[zQ h,zQ (λq=>h (jf.1 q))];rfl
theorem SPl.find(S:SPl c H0 A b x G th P held names Ls)(name:ByteArray):(∀e∈Ls,e.nm≠name)/\fi x.sp.mem (Ls.map SyE.w) name=none\/ ∃e∈Ls,e.nm=name/\fi x.sp.mem (Ls.map SyE.w) name=some e.w:=by
 by_cases h: ∃e∈Ls,e.nm=name
 ·right
  obtain⟨e,he,rfl⟩:=h
  refine⟨e,he,rfl,?_⟩
  cases hf:fi x.sp.mem (Ls.map SyE.w) e.nm with
  | none=>
   unfold fi at hf
   have:=List.find?_eq_none.1 hf e.w (List.mem_map_of_mem he)
   rw[S.is he,zX rfl]at this
   exact absurd rfl this
  | some w=>
   unfold fi at hf
   have h1:=List.find?_some hf
   obtain⟨e',he',rfl⟩:=List.mem_map.1 (List.mem_of_find?_eq_some hf)
   rw[S.is he',decide_eq_true_eq]at h1
   rw[S.one he' he h1]
 ·left
  refine⟨λe he q=>h ⟨e,he,q⟩,?_⟩
  unfold fi
  rw[List.find?_eq_none]
  intro w hw
  obtain⟨e,he,rfl⟩:=List.mem_map.1 hw
  rw[S.is he,decide_eq_true_eq]
  exact λq=>h ⟨e,he,q⟩
theorem SPl.ext(S:SPl c H0 A b x G th P held names Ls)(e:Ext A A'):SPl c H0 A' b x G th P held names Ls:=
 ⟨S.hs.ext e,S.sy.keep rfl e.fr (S:=[]) (by simp),S.ent,S.nod,S.play.ext e,S.hold,S.en,S.out⟩
theorem SPl.le{c':Int}(S:SPl c H0 A b x G th P held names Ls)(h:c<=c'):SPl c' H0 A b x G th P held names Ls:=
 ⟨⟨S.hs.e,S.hs.view,⟨S.hs.j.1.le h,S.hs.j.2⟩,S.hs.pic,S.hs.gf,S.hs.gt,S.hs.hb⟩,S.sy,S.ent,S.nod,S.play,S.hold,S.en,S.out⟩
def SyE.img(F:Int->Int)(e:SyE):SyE:=⟨F e.w,F e.s,e.nm⟩
set_option maxRecDepth 100000 in
theorem SPl.collected{g:Int}{sz:Int->Nat}{young:List Int}{fw:Int->Option Int}{al:List Int}{sz':Int->Nat}{tr:Tr}{s3 s4 s5:Sp}(S:SPl c H0 A b x G th P held names Ls)(hcf:x.sp.cf<=c)(hG: ∀v,G v ↔ Good x.sp.mem sz v)(hg3:g<=3)
  (Wk:sd (λA ws=>eJ A P b ws names) [P] A A' b x sz g g held young fw al sz' tr s3 s4 s5 (Ls.map SyE.w)):
  ∃x' G' th',SPl (c+1024) H0 A' b x' G' th' P (held.map (Fw tr.old fw)) names ((Ls.filter λe=>gk tr.old fw e.w).map (SyE.img (Fw tr.old fw))):=by
 have C:=Wk.col
 have Tr':=C.t
 have ok5:=C.inv.ok.mem
 have hblt:=S.hs.blt
 have he:=S.hs.e.size
 have hPl:=bB S.play.cell
 obtain⟨o1,o2,o3⟩:=S.out
 obtain⟨B,cc,hp',hso,hsB⟩:=Wk.sym
 have hyg:=C.yg
 have pl':=Wk.own
 rw[hyg]at pl'
 have imm: ∀v,¬dK v->Fw tr.old fw v=v:=λv h=>gF (λq=>h (nA q))
 have hsw: ∀e∈Ls,aJ e.w:=λe h=>(S.hs.pic.ths _ _ _ (S.ent e h).1).word
 have gwW: ∀e∈Ls,gk tr.old fw e.w=true->GW ⟨x.sp.mem,sz,tr.old,g,(· ∈held)⟩ fw e.w:=λe h hk=>by
  refine⟨hsw e h,(hG _).1 (S.hs.gt _ _ (S.ent e h).1),λho=>?_⟩
  unfold gk at hk
  rw[zQ (show ¬ ¬aM tr.old e.w from λq=>q ho)]at hk
  exact Option.isSome_iff_exists.1 (by simpa using hk)
 have gwS: ∀e∈Ls,gk tr.old fw e.w=true->GW ⟨x.sp.mem,sz,tr.old,g,(· ∈held)⟩ fw e.s:=λe h hk=>
  ((Tr'.thg ok5 (S.hs.pic.ths _ _ _ (S.ent e h).1) (gwW e h hk)).1 (by decide)).2 e.s (by simp)
 have hD: ∀w,(∃e∈Ls,gk tr.old fw e.w=true/\(w=e.w\/w=e.s))->GW ⟨x.sp.mem,sz,tr.old,g,(· ∈held)⟩ fw w:=λw ⟨e,h,hk,q⟩=>by
  rcases q with rfl | rfl
  ·exact gwW e h hk
  ·exact gwS e h hk
 obtain⟨th',ht,ht0⟩:=sH (Fw tr.old fw) (λw=> ∃e∈Ls,gk tr.old fw e.w=true/\(w=e.w\/w=e.s)) (λw w' h h' e=>Tr'.inj (hD w h) (hD w' h') e) (λw=>(th w).map λp=>(p.1,if rawK p.1=3 then p.2 else p.2.map (Fw tr.old fw))) none
 have bt: ∀u p,th' u=some p-> ∃w k ws,GW ⟨x.sp.mem,sz,tr.old,g,(· ∈held)⟩ fw w/\u=Fw tr.old fw w/\th w=some (k,ws)/\p=(k,if rawK k=3 then ws else ws.map (Fw tr.old fw)):=λu p e=>by
  by_cases q: ∃w,(∃e∈Ls,gk tr.old fw e.w=true/\(w=e.w\/w=e.s))/\Fw tr.old fw w=u
  ·obtain⟨w,h1,rfl⟩:=q
   rw[ht w h1]at e
   cases hw:th w with
   | none=>rw[hw]at e;cases e
   | some p0=>rw[hw]at e;cases e;exact⟨w,p0.1,p0.2,hD w h1,rfl,hw,rfl⟩
  ·rw[ht0 u (λw h1 h2=>q ⟨w,h1,h2⟩)]at e;cases e
 have hthing: ∀{w k:Int} {ws:List Int},GW ⟨x.sp.mem,sz,tr.old,g,(· ∈held)⟩ fw w->th w=some (k,ws)->cE s5.mem (Fw tr.old fw w) k 0 (if rawK k=3 then ws else ws.map (Fw tr.old fw)):=λ{w k ws} gw e=>by
  have h:=Tr'.thg ok5 (S.hs.pic.ths _ _ _ e) gw
  by_cases hk:rawK k=3
  ·rw[if_pos hk];exact h.2 hk
  ·rw[if_neg hk];exact(h.1 (by unfold rawK at hk⊢;split at hk<;>simp_all)).1
 have hPS: ∀j∈b.all++[P],H0.size<=j:=λj hj=>by
  rcases List.mem_append.1 hj with h | h
  ·exact S.hs.hb j h
  ·simp at h;omega
 have hkm: ∀e,e∈Ls.filter (λe=>gk tr.old fw e.w) ↔ e∈Ls/\gk tr.old fw e.w=true:=λe=>List.mem_filter
 have hkl:mi tr.old fw (Ls.map SyE.w)=((Ls.filter λe=>gk tr.old fw e.w).map (SyE.img (Fw tr.old fw))).map SyE.w:=by
  unfold mi
  rw[List.filter_map,List.map_map,List.map_map]
  rfl
 rw[hkl]at hp' hso
 refine⟨_,λv=>Good s5.mem (szE tr.old sz') v,th',⟨⟨S.hs.e.fr_trans Wk.fr hPS,.real hp' C.inv.ok,⟨⟨szE tr.old sz',C.inv,by have:=C.cf;show s5.cf<=_;omega,λ_=>Iff.rfl⟩,Tr'.gens S.hs.j.2 hg3⟩,⟨λ_ _ _ h=>(by cases h),λu k ws e=>?_,λu k ws u' k' ws' e e' hne=>?_⟩,λ_ _ h=>(by cases h),λu p e=>?_,S.hs.hb⟩,⟨B,cc,rfl,hso,λj hj=>⟨λh=>by have:=hblt j h;have:=hsB j hj;omega,by have:=hsB j hj;omega⟩,λw hw=>?_⟩,λe he=>?_,?_,pl',λi h1 h2=>?_,S.en,o1,λh=>?_,o3⟩⟩
 ·obtain⟨w,k0,ws0,gw,rfl,h2,h3⟩:=bt u _ e
  cases h3
  exact hthing gw h2
 ·obtain⟨w,k0,ws0,gw,rfl,h2,h3⟩:=bt u _ e
  obtain⟨w',k0',ws0',gw',rfl,h2',h3'⟩:=bt u' _ e'
  cases h3;cases h3'
  have t1:=S.hs.pic.ths _ _ _ h2
  have t2:=S.hs.pic.ths _ _ _ h2'
  have z1:=t1.szk Tr'.S.sound gw.2.1
  have z2:=t2.szk Tr'.S.sound gw'.2.1
  have m1:=t1.obj.1.2.1
  have m2:=t2.obj.1.2.1
  have lif: ∀(k:Int) (l:List Int),(if rawK k=3 then l else l.map (Fw tr.old fw)).length=l.length:=λk l=>by split<;>simp
  rw[lif,lif]
  exact Tr'.sep ok5 gw gw' (.inr (.inr m1)) (.inr (.inr m2)) (by omega) (λq=>hne (by rw[q])) z1.1.symm z2.1.symm
 ·obtain⟨w,k0,ws0,gw,rfl,h2,h3⟩:=bt u _ e
  exact(Tr'.good gw.1 gw.2.1 gw.2.2).1
 ·obtain⟨e',he',rfl⟩:=List.mem_map.1 hw
  obtain⟨e,he,rfl⟩:=List.mem_map.1 he'
  exact Tr'.tri.fw_word Tr'.S (hsw e ((hkm e).1 he).1)
 ·obtain⟨e0,he0,rfl⟩:=List.mem_map.1 he
  obtain⟨q1,q2⟩:=(hkm e0).1 he0
  obtain⟨r1,r2,r3⟩:=S.ent e0 q1
  refine⟨(ht e0.w ⟨e0,q1,q2,.inl rfl⟩).trans ?_,(ht e0.s ⟨e0,q1,q2,.inr rfl⟩).trans ?_,r3⟩
  ·rw[r1];rfl
  ·rw[r2];rfl
 ·have e:((Ls.filter λe=>gk tr.old fw e.w).map (SyE.img (Fw tr.old fw))).map SyE.nm=(Ls.filter λe=>gk tr.old fw e.w).map SyE.nm:=by rw[List.map_map];rfl
  rw[e]
  exact S.nod.sublist (List.Sublist.map _ (List.filter_sublist))
 ·rw[List.length_map]at h1
  rw[List.getElem_map]
  rcases S.hold i h1 h2 with⟨q1,q2⟩ | ⟨e,q1,q2,q3⟩
  ·left
   refine⟨q1,?_⟩
   rw[q2];exact imm 20 (by decide)
  ·right
   have hin:e.w∈held:=by rw[q3];exact List.getElem_mem h1
   have hk:gk tr.old fw e.w=true:=by
    unfold gk
    by_cases ho:aM tr.old e.w
    ·obtain⟨bb,hb⟩:=Tr'.roots e.w hin ho
     rw[hb];simp
    ·rw[zX (show ¬aM tr.old e.w from ho)];rfl
   exact⟨_,List.mem_map_of_mem ((hkm e).2 ⟨q1,hk⟩),q2,by rw[<-q3];rfl⟩
 ·have h:P∈blks B:=h
  have:=hsB P h;omega
theorem SPl.gone{sz:Int->Nat}{young:List Int}{fw:Int->Option Int}{al:List Int}{sz':Int->Nat}{tr:Tr}{s3 s4 s5:Sp}(S:SPl c H0 A b x G th P held names Ls)(hG: ∀v,G v ↔ Good x.sp.mem sz v)
  (C:mg x.sp sz 3 3 tr held young fw al sz' s3 s4 s5) {e:SyE} (he:e∈Ls) (hk:gk tr.old fw e.w=true):e.w∈held:=by
 have t:=C.t
 have T:=t.S
 have hhl:=S.play.len
 have hnl:=S.play.lenN
 have held_or: ∀v∈held,v=20\/ ∃e'∈Ls,e'.w=v:=λv hv=>by
  obtain⟨i,hi,rfl⟩:=List.getElem_of_mem hv
  rcases S.hold i hi (by omega)with⟨_,q⟩ | ⟨e',q1,_,q2⟩
  ·exact .inl q
  ·exact .inr ⟨e',q1,q2⟩
 have hall: ∀y,x.sp.mem.used y->tr.old (y / 64).toNat=true:=λy hy=>by
  have hlt:=T.lt hy
  refine(T.old _ hlt.1).2 ⟨?_,S.hs.j.2 y hy⟩
  have:=hy.1
  show x.sp.mem.has _
  rw[show(((y / 64).toNat:Nat):Int)=y / 64 by omega];exact hy.2.1
 have good: ∀e'∈Ls,Good x.sp.mem sz e'.w/\Good x.sp.mem sz e'.s:=λe' h=>⟨(hG _).1 (S.hs.gt _ _ (S.ent e' h).1),(hG _).1 (S.hs.gt _ _ (S.ent e' h).2.1)⟩
 have key: ∀a,Reach ⟨x.sp.mem,sz,tr.old,3,(· ∈held)⟩ a-> ∃e'∈Ls,e'.w∈held/\(a=e'.w / 8\/a=e'.s / 8):=λa h=>by
  induction h with
  | @root v h ho=>
   have h:v∈held:=h
   rcases held_or v h with rfl | ⟨e',q1,rfl⟩
   ·exact absurd (nA ho) (by decide)
   ·exact⟨e',q1,h,.inl rfl⟩
  | older hu hn hs ho=>have:=hall _ hu;rw[show tr.old _=false from hn]at this;cases this
  | @step a i h hi hs ho ih=>
   obtain⟨e',q1,q2,q3⟩:=ih
   obtain⟨r1,r2,r3⟩:=S.ent e' q1
   have tw:=S.hs.pic.ths _ _ _ r1
   have ts:=S.hs.pic.ths _ _ _ r2
   have z1:sz (e'.w / 8)=[e'.s].length+1/\x.sp.mem.kAt (e'.w / 8)=rawK 4:=tw.szk T.sound (good e' q1).1
   have z2:sz (e'.s / 8)=(aX e'.nm).length+1/\x.sp.mem.kAt (e'.s / 8)=rawK 2:=ts.szk T.sound (good e' q1).2
   have hi:i<sz a:=hi
   have hs:x.sp.mem.strong (a+i):=hs
   have ho:aM tr.old (x.sp.mem.get (a+i)):=ho
   show∃e'∈Ls,e'.w∈held/\(x.sp.mem.get (a+i) / 8=e'.w / 8\/x.sp.mem.get (a+i) / 8=e'.s / 8)
   rcases q3 with rfl | rfl
   ·rw[z1.1]at hi
    simp only[List.length_cons,List.length_nil]at hi
    rcases(show i=0\/i=1 by omega)with rfl | rfl
    ·rw[show e'.w / 8+((0:Nat):Int)=e'.w / 8 by omega]at ho
     exact absurd ho (jw tw.obj.2.1 _)
    ·have hg:=tw.get 0 (by simp)
     rw[show e'.w / 8+((1:Nat):Int)=e'.w / 8+1+((0:Nat):Int)by omega,hg]
     exact⟨e',q1,q2,.inr rfl⟩
   ·exfalso
    have hk3:x.sp.mem.kAt (e'.s / 8+i)=3:=by
     have:=T.sound.usedAt (a:=e'.s / 8) (i:=i) (by show sz _≠0;omega) hi (λk=>(T.ok.seg k).n.2)
     have e2:x.sp.mem.kAt (e'.s / 8+i)=x.sp.mem.kAt (e'.s / 8):=by unfold Mem.kAt;rw[this.2.1]
     rw[e2,z2.2];rfl
    exact hs.1 hk3
 obtain⟨r1,r2,r3⟩:=S.ent e he
 have tw:=S.hs.pic.ths _ _ _ r1
 have htag:dK e.w:=.inr (.inr tw.obj.1.2.1)
 have hu:=tw.usedHead
 have ho:aM tr.old e.w:=⟨tw.obj.1.1,by have:=tw.obj.1.2.1;omega,hall _ hu⟩
 unfold gk at hk
 rw[zQ (show ¬ ¬aM tr.old e.w from λq=>q ho)]at hk
 obtain⟨bb,hb⟩:=Option.isSome_iff_exists.1 (by simpa using hk)
 obtain⟨e',q1,q2,q3⟩:=key _ (t.tri.reach _ _ hb)
 obtain⟨p1,p2,p3⟩:=S.ent e' q1
 have tw':=S.hs.pic.ths _ _ _ p1
 have ts':=S.hs.pic.ths _ _ _ p2
 have m1:=tw.obj.1.2.1
 have m2:=tw'.obj.1.2.1
 rcases q3 with q3 | q3
 ·have:e.w=e'.w:=by omega
  rw[this];exact q2
 ·exfalso
  have k1:=tw.kindEq
  have k2:=ts'.kindEq
  rw[q3,k2]at k1
  exact absurd k1 (by decide)
end
