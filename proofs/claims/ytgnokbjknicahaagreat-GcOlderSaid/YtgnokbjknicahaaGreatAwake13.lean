/-
 The law of collections (package morainelaw13) is awake. Proves nothing of any one statement.
-/
import Derived.Test.YtgnokbjknicahaaGreatAwkB
import Derived.Test.YtgnokbjknicahaaGreatGsA
import Derived.Test.YtgnokbjknicahaaGreatLx
set_option linter.unusedVariables false
set_option linter.unusedSimpArgs false
namespace Go.Proofs.YtgnokbjknicahaaGreat
open Go

theorem fresh_inv{x0:Hp}{l:Nat}(ok1:SpOK x0.sp)(hx:x0=⟨⟨Mem.fresh l,λ_ _=>0⟩,.slice none 0 0,.slice none 0 0,0⟩):Inv x0.sp (λ_=>0)/\Plain0 x0.sp.mem/\x0.sp.mem.free=l/\x0.sp.cf=l/\x0.sp.mem.limit=l/\Bare x0/\x0.sp.cur 0 0=0/\x0.ep=0:=by
 refine⟨⟨ok1,by rw[hx];exact even_fresh _,?_,?_⟩,λk hk=>by rw[hx]at hk;exact absurd rfl hk,by rw[hx];rfl,by rw[hx];show(0:Int)+(l:Nat)=_;omega,by rw[hx];rfl,by rw[hx];exact⟨rfl,rfl⟩,by rw[hx],by rw[hx]⟩
 ·refine⟨λa h=>absurd rfl h,λa b h=>absurd rfl h,λa h=>absurd rfl h,λa h=>absurd rfl h,λa h=>?_⟩
  rw[hx]at h
  exact absurd rfl h.2.1.2.2
 ·intro a h
  rw[hx]at h
  exact absurd rfl h.2.1.2.2
structure AwkSt (H A:Array Obj) (b:Blk) (c:Nat) (x:Hp) (sz:Int->Nat) (l:List Int) (n:Nat) (root:Int):Prop where
 e:Ext H A
 view:View A (some ⟨b.h,0,none⟩) (some (b,x))
 pw:PW x.sp sz l n
 bare:Bare x
 box:A[c]?=some (.cells #[.int .u64 root] 24 (0,0))
 hb: ∀j∈b.all,H.size<=j
 hc:H.size<=c/\c ∉ b.all
theorem AwkSt.cons{H A:Array Obj}{b:Blk}{c n:Nat}{x:Hp}{sz:Int->Nat}{l:List Int}{root:Int}(S:AwkSt H A b c x sz l n root)(hr:root=l.headD 20)(hn:n<=102):
  obj_Heap_Cons.C (some ⟨b.h,0,none⟩) 8 root A (λv A'=> ∃(w:Int) (sz':Int->Nat) (x':Hp),v=.tuple #[.int .u64 w,.int .i64 0]/\AwkSt H A' b c x' sz' (w::l) (n+1) root):=by
 obtain⟨-,hp,ok⟩:=S.view.inv
 have hcf:=S.pw.cf
 obtain⟨sz',c1,P'⟩:=S.pw.cons hn
 obtain⟨r1,r2⟩:=S.pw.root
 subst hr
 refine HC.mono (obj_Cons_c S.view (by decide) r1 (show cntOK (some (b,x))from Sp.cf_count ok (by omega))) ?_
 rintro _ A' ⟨rfl,V',f'⟩
 have hpO:putO (some (b,x)) 0 1 [8,l.headD 20]=some (b,{x with sp:=(x.sp.put 0 1 [8,l.headD 20]).1}):=rfl
 rw[hpO]at V'
 have hown: ∀j∈own (some (b,x)),j∈b.all:=λj hj=>by simp[own]at hj;simp[Blk.all];omega
 refine⟨(x.sp.put 0 1 [8,l.headD 20]).2.1,sz',_,?_,S.e.fr_trans f' (λj hj=>S.hb j (hown j hj)),V',P',S.bare,f'.get (λq=>S.hc.2 (hown _ q)) S.box,S.hb,S.hc⟩
 show Value.tuple #[.int .u64 (x.sp.put 0 1 [8,l.headD 20]).2.1,.int .i64 (x.sp.put 0 1 [8,l.headD 20]).2.2]=_
 rw[c1]
theorem AwkSt.tail{H A:Array Obj}{b:Blk}{c n:Nat}{x:Hp}{sz:Int->Nat}{l:List Int}{w root:Int}(S:AwkSt H A b c x sz (w::l) n root):AwkSt H A b c x sz l n root:=⟨S.e,S.view,S.pw.tail,S.bare,S.box,S.hb,S.hc⟩
set_option maxRecDepth 100000 in
theorem awake13_c{H:Array Obj}:morainelaw13_awake.C H (λv H'=>v=.bool true/\Ext H H'):=by
 refine HC.via λR hR=>morainelaw13_awake.link ?_
 unfold morainelaw13_awake.pt
 refine HC.mono (obj_New_c (limit:=200) (by decide)) ?_
 rintro _ H1 (⟨hc,rfl,e1⟩ | ⟨hc,b,x0,rfl,V1,hx,e1,hb1⟩)
 ·exact absurd (by decide) hc
 refine⟨_,_,rfl,?_⟩
 rw[if_pos rfl,onPtr_some]
 obtain⟨-,hp1,ok1⟩:=V1.inv
 obtain⟨I0,P0,F0,C0,L0,B0,K0,E0⟩:=fresh_inv ok1 hx
 intro c H2 hc2 hH2
 obtain⟨hcp,hs⟩:=box_new (n:=1) (vs:=[.int .u64 20]) hc2 hH2 rfl rfl
 refine⟨hcp,λH3 hH3=>?_⟩
 obtain⟨g3,e3⟩:=hs H3 hH3
 have hb1s:=hp1.lt
 have W0:AwkSt H H3 b c x0 (λ_=>0) [] 0 20:=⟨e1.trans e3,V1.ext e3,⟨I0,P0,L0,C0,⟨by
  have hf:=Sp.fill_rng ok1 0 0
  have:x0.sp.fill 0 0=0:=by unfold Sp.fill;rw[if_pos (by simpa using K0)]
  rw[this,F0];decide,λ_=>F0⟩,λi h=>by simp at h,List.nodup_nil,λw h=>by simp at h⟩,B0,g3,hb1,by have:=e1.size;omega,λq=>by have:=hb1s c q;omega⟩
 refine⟨λi A=>(0<=i/\i<=3)/\ ∃(x:Hp) (sz:Int->Nat) (l:List Int),l.length=i.toNat/\AwkSt H A b c x sz l i.toNat (l.headD 20),λi _=>(3-i).toNat,⟨⟨by decide,by decide⟩,x0,_,[],rfl,W0⟩,?_⟩
 rintro i A ⟨hi,x,sz,l,hl,S⟩
 by_cases h3:i<3
 ·rw[if_pos h3]
  refine⟨_,hat_blk S.box,?_⟩
  refine HC.mono (S.cons rfl (by omega)) ?_
  rintro _ A2 ⟨w,sz',x',rfl,S2⟩
  obtain⟨-,hp2,-⟩:=S2.view.inv
  obtain⟨hcp2,hs2⟩:=box_set (n:=1) (vs:=[.int .u64 w]) S2.box rfl rfl
  refine⟨_,_,rfl,hcp2,λA3 hA3=>?_⟩
  obtain⟨g4,f4⟩:=hs2 A3 hA3
  have hd:(3-(i+1)).toNat< (3-i).toNat:=by omega
  rw[w64 (n:=i+1) (by omega)]
  have hcb: ∀j∈[c],j ∉ b.all:=λj hj=>by simp at hj;rw[hj];exact S2.hc.2
  refine⟨⟨⟨by omega,by omega⟩,x',sz',w::l,by simp;omega,S2.e.fr_trans f4 (λj hj=>by simp at hj;rw[hj];exact S2.hc.1),.real (hp2.keep f4 hcb) S2.pw.inv.ok,?_,S2.bare,g4,S2.hb,S2.hc⟩,hd⟩
  have:=S2.pw
  rw[show(i+1).toNat=i.toNat+1 by omega];exact this
 rw[if_neg h3]
 obtain rfl:i=3:=by omega
 match l,hl with
 | [r3,r2,r1],_=>
 have S':AwkSt H A b c x sz [r3,r2,r1] 3 r3:=S
 refine⟨λj A=>(0<=j/\j<=100)/\ ∃(x:Hp) (sz:Int->Nat),AwkSt H A b c x sz [r3,r2,r1] (3+j.toNat) r3,λj _=>(100-j).toNat,⟨⟨by decide,by decide⟩,x,sz,S'⟩,?_⟩
 rintro j A5 ⟨hj,x5,sz5,S5⟩
 by_cases h100:j<100
 ·rw[if_pos h100]
  refine⟨_,hat_blk S5.box,?_⟩
  refine HC.mono (S5.cons rfl (by omega)) ?_
  rintro _ A6 ⟨w,sz',x',rfl,S6⟩
  have hd:(100-(j+1)).toNat< (100-j).toNat:=by omega
  refine⟨_,_,rfl,?_⟩
  rw[w64 (n:=j+1) (by omega)]
  refine⟨⟨⟨by omega,by omega⟩,x',sz',?_⟩,hd⟩
  have:=S6.tail
  rw[show 3+(j+1).toNat=3+j.toNat+1 by omega];exact this
 rw[if_neg h100]
 obtain rfl:j=100:=by omega
 intro c9 H9 hc9 hH9
 have e9:Ext A5 H9:=Ext.push' hH9
 have g9:=push_get hc9 hH9
 obtain⟨-,hp9,ok9⟩:=(S5.view.ext e9).inv
 obtain⟨hf1,hf2⟩:=S5.pw.free (by decide)
 have hcf:=S5.pw.cf
 have hlt5:=hp9.lt
 have z9:=e9.size
 have hst:startE x5.sp 0 1 1=0:=by
  unfold startE
  rw[if_neg (by decide),if_neg (by omega)]
 have hown:Own H9 24 1 (some ⟨c,0,none⟩) ([r3]:List Int).length 1 (wvs [r3]):=⟨rfl,_,e9.get S5.box,rfl,Nat.le_refl _,rfl,λj hj=>by
  obtain rfl:j=0:=Nat.lt_one_iff.1 hj
  rfl⟩
 have hbc:=lt_size (e9.get S5.box)
 obtain⟨-,hp5,-⟩:=S5.view.inv
 refine HC.mono (gc_Collect_c (k:=0) (rB:=some ⟨c,0,none⟩) (roots:=[r3]) hp9 S5.pw.inv (by omega) S5.bare.1 S5.bare.2 (by decide) (by decide) hown (λj hj=>by simp at hj;rw[hj];exact S5.hc.2)
  (show SrcAt H9 (some ⟨c9,0,none⟩) (ptrs 0 ⟨c,0,none⟩ 1)from rowAt_blk g9 _ 0 0 (λj hj=>by
   have hj':j<1:=hj
   obtain rfl:j=0:=by omega
   rfl)) rfl (λj hj=>by
   simp at hj
   rw[hj]
   exact⟨λq=>by have:=hp5.lt c9 q;omega,λq=>by have:=lt_size S5.box;simp at q;omega,lt_size g9⟩) (λw hw=>by simp at hw;rw[hw];exact S5.pw.root) (by decide)) ?_
 rintro v10 H10 ⟨-,hyes⟩
 obtain⟨rfl,young,fw,al,sz',tr,s3,s4,s5,W⟩:=hyes hst
 obtain⟨r,rfl,wr,w0,w1,a1,a2⟩:=awake13_law S5.pw W.col
 refine⟨_,rfl,r,?_,?_⟩
 ·have:=W.own.src
  have h2:=rowAt_hat (show RowAt H10 ⟨c,0,none⟩ 0 (wvs [r])from this) 0 (.int .u64 r) rfl
  rw[addr_add_mk]at h2
  exact h2
 have ok5:=W.col.inv.ok
 obtain⟨X,hX⟩: ∃X:Hp,X={x5 with sp:=s5,ep:=IntKind.wrap .u64 (x5.ep+1)}:=⟨_,rfl⟩
 have hpX:=W.hp
 rw[<-hX]at hpX
 have hsX:X.sp=s5:=by rw[hX]
 have okX:SpOK X.sp:=by rw[hsX];exact ok5
 have baX:Bare X:=by rw[hX];exact S5.bare
 rw[<-hsX]at w0 w1 a1 a2
 have V10:View H10 (some ⟨b.h,0,none⟩) (some (b,X)):=.real hpX okX
 have hmo:mof (some (b,X))=X.sp.mem:=rfl
 refine HC.mono (obj_Car_c V10 wr) ?_
 rintro _ H11 ⟨rfl,e11⟩
 refine⟨8,0,by rw[hmo,a1,if_pos rfl,a2],?_⟩
 rw[if_pos rfl]
 have hp11:=hpX.ext e11
 refine⟨_,hp11.hPtr,_,rfl,_,hp11.cd.cPtr,λb17 H17 hb17 hH17=>?_⟩
 have e17:Ext H11 H17:=Ext.push' hH17
 have hp17:=hp11.ext e17
 refine HC.mono (space_Words_c (gs:=[0]) hp17.cd.sp okX (show SrcAt H17 (some ⟨b17,0,none⟩) (ivs [0])from⟨by rw[addr_add_mk,hat_blk (push_get hb17 hH17)];rfl,trivial⟩) rfl (by decide)) ?_
 rintro _ H18 ⟨rfl,e18⟩
 refine⟨_,rfl,?_⟩
 rw[if_pos w0]
 have hp18:=hp17.ext e18
 refine⟨_,hp18.hPtr,_,rfl,_,hp18.cd.cPtr,λb19 H19 hb19 hH19=>?_⟩
 have e19:Ext H18 H19:=Ext.push' hH19
 have hp19:=hp18.ext e19
 refine HC.mono (space_Words_c (gs:=[1]) hp19.cd.sp okX (show SrcAt H19 (some ⟨b19,0,none⟩) (ivs [1])from⟨by rw[addr_add_mk,hat_blk (push_get hb19 hH19)];rfl,trivial⟩) rfl (by decide)) ?_
 rintro _ H20 ⟨rfl,e20⟩
 refine⟨_,rfl,?_⟩
 rw[if_pos w1,if_pos rfl,if_pos rfl]
 have hp20:=hp19.ext e20
 have E20:Ext H10 H20:=(e11.trans e17).trans ((e18.trans e19).trans e20)
 have hcX:X.sp.cf<=100000:=by
  have:=W.col.cf
  rw[hsX];omega
 have IX:Inv X.sp (szE tr.old sz'):=by rw[hsX];exact W.col.inv
 have h4:startE X.sp 4 4 1=1:=by unfold startE;rw[if_pos (by decide)]
 refine HC.mono (gc_Collect_c (k:=0) (rB:=none) (rC:=0) (pB:=none) (roots:=[]) hp20 IX (by omega) baX.1 baX.2 (by decide) (by decide) own_nil (λj hj=>by simp at hj) rfl rfl (λj hj=>by simp at hj) (λw hw=>by simp at hw) (by decide)) ?_
 rintro v21 H21 ⟨hno,-⟩
 obtain⟨rfl,e21⟩:=hno (by rw[h4];decide)
 refine⟨_,rfl,hR _ _ ⟨by rw[h4];rfl,?_⟩⟩
 have E10:Ext H H10:=(S5.e.trans e9).fr_trans W.fr (λj hj=>by
  rcases List.mem_append.1 hj with q | q
  ·exact S5.hb j q
  ·simp at q;rw[q];exact S5.hc.1)
 exact(E10.trans E20).trans e21
end Go.Proofs.YtgnokbjknicahaaGreat
