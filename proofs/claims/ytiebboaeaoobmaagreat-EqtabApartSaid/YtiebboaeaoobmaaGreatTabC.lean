/-
 Calls on a heap that is looked after. Proves nothing of any one statement.
-/
import Derived.Test.YtiebboaeaoobmaaGreatTabA
set_option linter.unusedVariables false
set_option linter.unusedSimpArgs false
namespace Go.Proofs.YtiebboaeaoobmaaGreat
open Go

structure JOK (J:Sp->(Int->Prop)->Prop):Prop where
 ok: ∀{s:Sp} {G:Int->Prop},J s G->SpOK s
 even: ∀{s:Sp} {G:Int->Prop},J s G->s.mem.Even
 cnt: ∀{s:Sp} {G:Int->Prop},J s G->s.mem.count<4611686018427387904
 imm: ∀{s:Sp} {G:Int->Prop},J s G-> ∀v,v % 8≠6-> ¬(v % 8=1\/v % 8=2\/v % 8=3)->G v
 half: ∀{s:Sp} {G:Int->Prop} {w a d v i:Int},J s G->Pr s.mem w 1 a d->G w->IsWord v->G v->(i=0\/i=1)->J {s with mem:=(s.mem.store (w / 8+i) v).1} G
 field: ∀{s:Sp} {G:Int->Prop} {w k v:Int} {ws:List Int} {i:Nat},J s G->Thing s.mem w k 0 ws->G w->IsWord v->G v->i<ws.length->J {s with mem:=(s.mem.store (w / 8+1+i) v).1} G
 pr: ∀{s:Sp} {G:Int->Prop} {w a d:Int},J s G->Pr s.mem w 1 a d->G w->G a/\G d
 th: ∀{s:Sp} {G:Int->Prop} {w k:Int} {ws:List Int},J s G->Thing s.mem w k 0 ws->rawK k=2->G w-> ∀v∈ws,G v
 put: ∀{s:Sp} {G:Int->Prop} {kind tag:Int} {ws:List Int},J s G->(kind=0/\tag=1/\ws.length=2\/kind=1/\tag=2/\ws.length=2\/(kind=2\/kind=3)/\tag=3/\ ∃hd fs,ws=hd::fs/\headOK hd/\rawK (hk hd)=kind/\hn hd=fs.length)->(∀w∈ws,IsWord w)->(kind≠3-> ∀w∈ws,G w)->
  ∃G',J (s.put kind tag ws).1 G'/\(∀v,G v->G' v)/\((s.put kind tag ws).2.2=0->G' (s.put kind tag ws).2.1)
theorem Sp.alloc_two{s:Sp}(ok:SpOK s){g k n:Int}(hm:may g k n)(h:(s.alloc g k n).2.2≠0):(s.alloc g k n).2.2=2:=by
 by_cases hf:s.mem.free=0
 ·have hg:=hm.1
  have hk:0<=k/\k<=3:=by have:=hm.2;omega
  unfold Sp.alloc at*
  rw[if_neg (λhh=>hh hm)]at h⊢
  by_cases hc:s.cur g.toNat k.toNat≠0/\(s.mem.bump (s.cur g.toNat k.toNat-1) n).2.2=0
  ·rw[if_pos hc]at h;exact absurd rfl h
  rw[if_neg hc]at h⊢
  have hte:s.mem.take g k=(s.mem,0,2):=by unfold Mem.take;rw[if_neg (by omega),if_pos hf]
  rw[hte,if_neg (by decide: ¬((2:Int)=0))]
 ·have:0<=s.mem.free:=by rw[ok.mem.free];omega
  exact absurd (Sp.alloc_can ok hm (by omega)) h

def Rest(n:Int)(x x':Hp):Prop:=x'.sy=x.sy/\x'.en=x.en/\x'.ep=x.ep/\x.sp.mem.free-n<=x'.sp.mem.free/\ ∀a,x.sp.mem.used a->x'.sp.mem.used a
theorem Rest.refl(x:Hp):Rest 0 x x:=⟨rfl,rfl,rfl,by omega,λ_ h=>h⟩
theorem Rest.trans{n k m:Int}{x y z:Hp}(h:Rest n x y)(q:Rest k y z)(hm:n+k<=m:=by omega):Rest m x z:=⟨q.1.trans h.1,q.2.1.trans h.2.1,q.2.2.1.trans h.2.2.1,by have:=h.2.2.2.1;have:=q.2.2.2.1;omega,λa ha=>q.2.2.2.2 a (h.2.2.2.2 a ha)⟩
theorem Rest.le{n m:Int}{x y:Hp}(h:Rest n x y)(hm:n<=m:=by omega):Rest m x y:=⟨h.1,h.2.1,h.2.2.1,by have:=h.2.2.2.1;omega,h.2.2.2.2⟩
theorem Rest.free{n:Int}{x y:Hp}(h:Rest n x y):x.sp.mem.free-n<=y.sp.mem.free:=h.2.2.2.1
theorem Rest.ep{n:Int}{x y:Hp}(h:Rest n x y):y.ep=x.ep:=h.2.2.1
structure HS (J:Sp->(Int->Prop)->Prop) (H0 H:zV) (b:Blk) (x:Hp) (G:Int->Prop) (f:PF) (th:TF):Prop where
 e:Ext H0 H
 view:View H (some ⟨b.h,0,none⟩) (some (b,x))
 j:J x.sp G
 pic:HPic x.sp.mem f th
 gf: ∀w p,f w=some p->G w
 gt: ∀w p,th w=some p->G w
 hb: ∀j∈b.all,H0.size<=j

section
variable {J:Sp->(Int->Prop)->Prop} {H0 H:zV} {b:Blk} {x:Hp} {G:Int->Prop} {f:PF} {th:TF}
theorem HS.ext{H':zV}(S:HS J H0 H b x G f th)(e:Ext H H'):HS J H0 H' b x G f th:=⟨S.e.trans e,S.view.ext e,S.j,S.pic,S.gf,S.gt,S.hb⟩
theorem HS.blt(S:HS J H0 H b x G f th): ∀j∈b.all,j<H.size:=by
 obtain⟨-,hp,-⟩:=S.view.inv
 exact hp.lt
theorem HS.keep{H':zV}{T:List Nat}(S:HS J H0 H b x G f th)(fr:Fr T H H')(h0: ∀j∈T,H0.size<=j)(hT: ∀j∈T,j ∉ b.all):HS J H0 H' b x G f th:=by
 obtain⟨-,hp,ok⟩:=S.view.inv
 exact⟨S.e.fr_trans fr h0,.real (hp.keep fr hT) ok,S.j,S.pic,S.gf,S.gt,S.hb⟩
theorem HS.less{f':PF}{th':TF}(S:HS J H0 H b x G f th)(hf: ∀w p,f' w=some p->f w=some p)(ht: ∀w p,th' w=some p->th w=some p):HS J H0 H b x G f' th':=
 ⟨S.e,S.view,S.j,⟨λw a d e=>S.pic.prs w a d (hf _ _ e),λw k ws e=>S.pic.ths w k ws (ht _ _ e),λw k ws w' k' ws' e e'=>S.pic.sep w k ws w' k' ws' (ht _ _ e) (ht _ _ e')⟩,λw p e=>S.gf w p (hf _ _ e),λw p e=>S.gt w p (ht _ _ e),S.hb⟩
theorem HS.car_c(S:HS J H0 H b x G f th){w a d:Int}(hf:f w=some (a,d)):obj_Heap_Car.C (some ⟨b.h,0,none⟩) w H (λv H'=>v=.tuple #[.int .u64 a,.int .i64 0]/\Ext H H'):=by
 have p:=S.pic.prs w a d hf
 refine HC.mono (obj_Car_c S.view p.word) ?_
 rintro _ H' ⟨rfl,e⟩
 have hm:mof (some (b,x))=x.sp.mem:=rfl
 rw[hm,p.half.1,if_pos rfl,Int.add_zero,p.car]
 exact⟨rfl,e⟩
theorem HS.cdr_c(S:HS J H0 H b x G f th){w a d:Int}(hf:f w=some (a,d)):obj_Heap_Cdr.C (some ⟨b.h,0,none⟩) w H (λv H'=>v=.tuple #[.int .u64 d,.int .i64 0]/\Ext H H'):=by
 have p:=S.pic.prs w a d hf
 refine HC.mono (obj_Cdr_c S.view p.word) ?_
 rintro _ H' ⟨rfl,e⟩
 have hm:mof (some (b,x))=x.sp.mem:=rfl
 rw[hm,p.half.2,if_pos rfl,p.cdr]
 exact⟨rfl,e⟩
theorem HS.get_c(S:HS J H0 H b x G f th){w k v i:Int}{ws:List Int}(ht:th w=some (k,ws))(hi:0<=i)(hv:ws[i.toNat]?=some v):obj_Heap_Get.C (some ⟨b.h,0,none⟩) w k i H (λu H'=>u=.tuple #[.int .u64 v,.int .i64 0]/\Ext H H'):=by
 have t:=S.pic.ths w k ws ht
 obtain⟨hl,rfl⟩:=List.getElem?_eq_some_iff.1 hv
 have h62:=t.le62
 refine HC.mono (obj_Get_c S.view t.word (show I64 i from⟨by omega,by omega⟩)) ?_
 rintro _ H' ⟨rfl,e⟩
 have hm:mof (some (b,x))=x.sp.mem:=rfl
 have hg:=t.get i.toNat hl
 rw[show((i.toNat:Nat):Int)=i by omega]at hg
 rw[hm,t.field_in ⟨hi,by omega⟩,if_pos rfl,hg]
 exact⟨rfl,e⟩
theorem store_0(O:JOK J)(S:HS J H0 H b x G f th){a w:Int}(hu:x.sp.mem.used a)(hw:IsWord w):(x.sp.mem.store a w).2=0:=Mem.store_0 (O.ok S.j).mem hu hw
theorem HS.half(O:JOK J)(S:HS J H0 H b x G f th){H':zV}{w a d v i:Int}(hf:f w=some (a,d))(hv:IsWord v)(gv:G v)(hi:i=0\/i=1)(V:View H' (some ⟨b.h,0,none⟩) (hsetO (some (b,x)) w i v))(fr:Fr (own (some (b,x))) H H'):
  hsetE (some (b,x)) w i v=0/\ ∃x',HS J H0 H' b x' G (f.upd w (if i=0 then v else a,if i=0 then d else v)) th/\Rest 0 x x'/\Fr [b.sp,b.m,b.s] H H':=by
 have p:=S.pic.prs w a d hf
 have hm:mof (some (b,x))=x.sp.mem:=rfl
 have e1:hsetO (some (b,x)) w i v=some (b,x.setMem (x.sp.mem.store (w / 8+i) v).1):=by unfold hsetO;simp only;rw[if_pos p.isPair]
 rw[e1]at V
 have ok:=(O.ok S.j).mem
 refine⟨?_,_,⟨S.e.fr_trans fr (λj hj=>S.hb j ?_),V,O.half S.j p (S.gf _ _ hf) hv gv hi,S.pic.setHalf ok hf hi,λw' p' e=>?_,S.gt,S.hb⟩,⟨rfl,rfl,rfl,?_,λa h=>Mem.store_used.2 h⟩,fr⟩
 ·unfold hsetE
  rw[hm,if_pos p.isPair]
  refine store_0 O S ?_ hv
  rcases hi with rfl | rfl
  ·rw[Int.add_zero];exact p.at'.used p.word
  ·exact p.used
 ·simp[own]at hj;simp[Blk.all];omega
 ·by_cases q:w'=w
  ·rw[q];exact S.gf _ _ hf
  ·rw[PF.upd_ne f _ q]at e;exact S.gf _ _ e
 ·show x.sp.mem.free-0<=(x.sp.mem.store _ _).1.free
  rw[Mem.store_lim.2.1];omega
theorem HS.setCdr_c(O:JOK J)(S:HS J H0 H b x G f th){w a d v:Int}(hf:f w=some (a,d))(hv:IsWord v)(gv:G v):
  obj_Heap_SetCdr.C (some ⟨b.h,0,none⟩) w v H (λu H'=>u=.int .i64 0/\ ∃x',HS J H0 H' b x' G (f.upd w (a,v)) th/\Rest 0 x x'/\Fr [b.sp,b.m,b.s] H H'):=by
 refine HC.mono (obj_SetCdr_c S.view (S.pic.prs w a d hf).word hv) ?_
 rintro _ H' ⟨rfl,V,fr⟩
 obtain⟨e,x',h1,h2,h3⟩:=S.half O hf hv gv (.inr rfl) V fr
 rw[if_neg (by decide),if_neg (by decide)]at h1
 exact⟨by rw[e],x',h1,h2,h3⟩
theorem HS.setCar_c(O:JOK J)(S:HS J H0 H b x G f th){w a d v:Int}(hf:f w=some (a,d))(hv:IsWord v)(gv:G v):
  obj_Heap_SetCar.C (some ⟨b.h,0,none⟩) w v H (λu H'=>u=.int .i64 0/\ ∃x',HS J H0 H' b x' G (f.upd w (v,d)) th/\Rest 0 x x'/\Fr [b.sp,b.m,b.s] H H'):=by
 refine HC.mono (obj_SetCar_c S.view (S.pic.prs w a d hf).word hv) ?_
 rintro _ H' ⟨rfl,V,fr⟩
 obtain⟨e,x',h1,h2,h3⟩:=S.half O hf hv gv (.inl rfl) V fr
 rw[if_pos rfl,if_pos rfl]at h1
 exact⟨by rw[e],x',h1,h2,h3⟩
theorem HS.set_c(O:JOK J)(S:HS J H0 H b x G f th){w k v i:Int}{ws:List Int}(ht:th w=some (k,ws))(hi:0<=i)(hl:i.toNat<ws.length)(hv:IsWord v)(gv:G v):
  obj_Heap_Set.C (some ⟨b.h,0,none⟩) w k i v H (λu H'=>u=.int .i64 0/\ ∃x',HS J H0 H' b x' G f (th.upd w (k,ws.set i.toNat v))/\Rest 0 x x'/\Fr [b.sp,b.m,b.s] H H'):=by
 have t:=S.pic.ths w k ws ht
 have h62:=t.le62
 have ok:=(O.ok S.j).mem
 refine HC.mono (obj_Set_c S.view t.word (show I64 i from⟨by omega,by omega⟩) hv) ?_
 rintro _ H' ⟨rfl,V,fr⟩
 have hm:mof (some (b,x))=x.sp.mem:=rfl
 have hin:=t.field_in (i:=i) ⟨hi,by omega⟩
 have e1:setO (some (b,x)) w k i v=some (b,x.setMem (x.sp.mem.store (w / 8+1+i) v).1):=by unfold setO;simp only;rw[if_pos hin]
 rw[e1]at V
 have hii:((i.toNat:Nat):Int)=i:=by omega
 have hu:=t.usedAt (λk=>(ok.seg k).n.2) hl
 have hj:=O.field S.j t (S.gt _ _ ht) hv gv hl
 have hp:=S.pic.setField ok ht hl (v:=v)
 rw[hii]at hu hj hp
 refine⟨?_,_,⟨S.e.fr_trans fr (λj hj=>S.hb j ?_),V,hj,hp,S.gf,λw' p' e=>?_,S.hb⟩,⟨rfl,rfl,rfl,?_,λa h=>Mem.store_used.2 h⟩,fr⟩
 ·unfold setE
  rw[hm,hin,if_pos rfl,store_0 O S hu hv]
 ·simp[own]at hj;simp[Blk.all];omega
 ·by_cases q:w'=w
  ·rw[q];exact S.gt _ _ ht
  ·rw[TF.upd_ne th _ q]at e;exact S.gt _ _ e
 ·show x.sp.mem.free-0<=(x.sp.mem.store _ _).1.free
  rw[Mem.store_lim.2.1];omega
theorem HS.cons_c(O:JOK J)(S:HS J H0 H b x G f th){a d:Int}(ha:IsWord a)(hd:IsWord d)(ga:G a)(gd:G d):
  obj_Heap_Cons.C (some ⟨b.h,0,none⟩) a d H (λv H'=> ∃w e x' G',v=.tuple #[.int .u64 w,.int .i64 e]/\Rest 1 x x'/\(∀u,G u->G' u)/\Fr [b.sp,b.m,b.s] H H'/\(e=0/\f w=none/\(IsWord w/\ ¬x.sp.mem.used (w / 8))/\HS J H0 H' b x' G' (f.upd w (a,d)) th\/e=2/\w=0/\x.sp.mem.free<1/\HS J H0 H' b x' G' f th)):=by
 have okS:=O.ok S.j
 refine HC.mono (obj_Cons_c S.view ha hd (O.cnt S.j)) ?_
 rintro _ H' ⟨rfl,V,fr⟩
 have hp2:putO (some (b,x)) 0 1 [a,d]=some (b,{x with sp:=(x.sp.put 0 1 [a,d]).1}):=rfl
 have hr2:putR (some (b,x)) 0 1 [a,d]=(x.sp.put 0 1 [a,d]).2:=rfl
 rw[hp2]at V
 rw[hr2]
 have h0: ∀j∈own (some (b,x)),H0.size<=j:=λj hj=>S.hb j (by simp[own]at hj;simp[Blk.all];omega)
 obtain⟨G',j1,j2,j3⟩:=O.put S.j (kind:=0) (tag:=1) (ws:=[a,d]) (.inl ⟨rfl,rfl,rfl⟩) (λw hw=>by simp at hw;rcases hw with rfl | rfl<;>assumption) (λ_ w hw=>by simp at hw;rcases hw with rfl | rfl<;>assumption)
 by_cases hal:(x.sp.alloc 0 0 2).2.2=0
 ·have hok:(x.sp.put 0 1 [a,d]).2.2=0/\Pr (x.sp.put 0 1 [a,d]).1.mem (x.sp.put 0 1 [a,d]).2.1 1 a d/\SpOK (x.sp.put 0 1 [a,d]).1/\Made x.sp.mem (x.sp.put 0 1 [a,d]).1.mem (x.sp.put 0 1 [a,d]).2.1 1/\(x.sp.put 0 1 [a,d]).1.mem.Even:=Sp.cons_ok0 okS (O.even S.j) (tag:=1) (.inl rfl) ha hd hal
  obtain⟨h1,h2,h3,h4,h5⟩:=hok
  refine⟨_,_,{x with sp:=(x.sp.put 0 1 [a,d]).1},G',rfl,⟨rfl,rfl,rfl,h4.free,λa h=>(h4.keep.used a h).1⟩,j2,fr,.inl ⟨h1,S.pic.fresh h4,⟨h2.word,by have:=h4.fresh 0 (by omega);rw[show(x.sp.put 0 1 [a,d]).2.1 / 8+((0:Nat):Int)=(x.sp.put 0 1 [a,d]).2.1 / 8 by omega]at this;exact this⟩,⟨S.e.fr_trans fr h0,V,j1,S.pic.cons okS.mem h4 h2,λw' p' e=>?_,λw' p' e=>j2 _ (S.gt _ _ e),S.hb⟩⟩⟩
  by_cases q:w'=(x.sp.put 0 1 [a,d]).2.1
  ·rw[q];exact j3 h1
  ·rw[PF.upd_ne f _ q]at e;exact j2 _ (S.gf _ _ e)
 ·obtain⟨h1,h2⟩:=Sp.cons_no (s:=x.sp) (tag:=1) (x:=a) (y:=d) hal
  have h1':(x.sp.put 0 1 [a,d]).1=x.sp:=h1
  have he:(x.sp.put 0 1 [a,d]).2=(0,2):=by
   have h2:=Sp.alloc_two okS (g:=0) (k:=0) (n:=2) ⟨by decide,.inl ⟨by decide,rfl⟩⟩ hal
   have hl:(([a,d]:List Int).length:Int)=2:=rfl
   unfold Sp.put
   rw[hl,if_neg hal,h2]
  rw[he]
  refine⟨_,_,{x with sp:=(x.sp.put 0 1 [a,d]).1},G',rfl,⟨rfl,rfl,rfl,by show x.sp.mem.free-1<=(x.sp.put 0 1 [a,d]).1.mem.free;rw[h1'];omega,λu h=>by show(x.sp.put 0 1 [a,d]).1.mem.used u;rw[h1'];exact h⟩,j2,fr,.inr ⟨rfl,rfl,?_,⟨S.e.fr_trans fr h0,V,j1,?_,λw' p' e=>j2 _ (S.gf _ _ e),λw' p' e=>j2 _ (S.gt _ _ e),S.hb⟩⟩⟩
  ·exact Int.not_le.1 (λq=>hal (Sp.alloc_can okS (g:=0) (k:=0) (n:=2) ⟨by decide,.inl ⟨by decide,rfl⟩⟩ q))
  show HPic (x.sp.put 0 1 [a,d]).1.mem f th
  rw[h1'];exact S.pic
end
