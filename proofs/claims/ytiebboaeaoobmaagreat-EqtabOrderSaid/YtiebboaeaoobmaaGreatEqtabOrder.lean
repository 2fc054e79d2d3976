/- The law EqtabOrder of morainelaw15 holds: called with any arguments it answers true and leaves what it was handed as it was. No condition. -/
import Derived.Test.YtiebboaeaoobmaaGreatTabM
import Derived.Test.YtiebboaeaoobmaaGreatArg
set_option linter.unusedVariables false
set_option linter.unusedSimpArgs false
namespace Go.Proofs.YtiebboaeaoobmaaGreat.eqtabOrder
open Go Go.Proofs.YtiebboaeaoobmaaGreat
open Go.ChangeShapes Go.WideShapes Go.ChangeAt Go.RowKit

def iv(l:List Int):List Value:=l.map (Value.int .i64)
theorem allOne_iv: ∀l:List Int,allOne (iv l)=true
 | []=>rfl
 | x::l=>by show(true && allOne (iv l))=true;rw[allOne_iv l];rfl
theorem iv_at{l:List Int}{j:Nat}(h:j<l.length):(iv l)[j]?=some (.int .i64 l[j]):=by
 unfold iv
 rw[List.getElem?_map,List.getElem?_eq_getElem h];rfl
def LO(o la:List Int):List (Int×Int):=o.map λj=>(j,la.getD j.toNat 0)
theorem LO_set_no: ∀{o la:List Int} {k v:Int},(∀j∈o,0<=j)->0<=k->k ∉ o->LO o (la.set k.toNat v)=LO o la
 | [],_,_,_,_,_,_=>rfl
 | a::o,la,k,v,h,h0,hk=>by
  have ha:=h a (by simp)
  have hne:k≠a:=λe=>hk (by simp[e])
  show(a,(la.set k.toNat v).getD a.toNat 0)::LO o _=(a,la.getD a.toNat 0)::LO o la
  rw[LO_set_no (λj hj=>h j (by simp[hj])) h0 (λq=>hk (by simp[q])),List.getD_eq_getElem?_getD,List.getElem?_set_ne (by omega),<-List.getD_eq_getElem?_getD]
theorem LO_put: ∀{o la:List Int} {k v:Int},(∀j∈o,0<=j)->0<=k->k.toNat<la.length->o.Nodup->k∈o->putL (LO o la) k v=LO o (la.set k.toNat v)
 | [],_,_,_,_,_,_,_,hk=>by cases hk
 | a::o,la,k,v,h,h0,hl,hn,hk=>by
  rw[List.nodup_cons]at hn
  show(if a=k then(k,v)::LO o la else(a,la.getD a.toNat 0)::putL (LO o la) k v)=(a,(la.set k.toNat v).getD a.toNat 0)::LO o _
  by_cases e:a=k
  ·rw[if_pos e]
   subst e
   rw[LO_set_no (λj hj=>h j (by simp[hj])) h0 hn.1,List.getD_eq_getElem?_getD,List.getElem?_set_self hl];rfl
  ·have ha:=h a (by simp)
   rcases List.mem_cons.1 hk with q | q
   ·exact absurd q.symm e
   rw[if_neg e,LO_put (λj hj=>h j (by simp[hj])) h0 hl hn.2 q,List.getD_eq_getElem?_getD (l:=la.set k.toNat v),List.getElem?_set_ne (by omega),<-List.getD_eq_getElem?_getD]
theorem LO_new{o la:List Int}{k v:Int}(h: ∀j∈o,0<=j)(h0:0<=k)(hl:k.toNat<la.length)(hk:k ∉ o):putL (LO o la) k v=LO (o++[k]) (la.set k.toNat v):=by
 rw[putL_new _ (λp hp e=>by
  obtain⟨j,hj,rfl⟩:=List.mem_map.1 hp
  exact hk (by rw[<-e];exact hj))]
 have e:LO (o++[k]) (la.set k.toNat v)=LO o (la.set k.toNat v)++[(k,(la.set k.toNat v).getD k.toNat 0)]:=by unfold LO;rw[List.map_append];rfl
 rw[e,LO_set_no h h0 hk,List.getD_eq_getElem?_getD,List.getElem?_set_self hl];rfl
structure OS (s3:Nat) (H A:zV) (bk:Blk) (t:Int) (P q:Nat) (keys:List Int) (b:Nat) (oB:zW) (oN oC:Nat) (order last:List Int) (x:Hp) (G:Int->Prop) (f:PF) (th:TF) (E:List Ent) (W:TW):Prop where
 ts:TS J1 H A bk x G f th t (8*x.ep) E W
 play:PlayAt A P bk t keys q
 own:Own A 3 1 oB oN oC (iv order)
 la:Own A 3 1 (some ⟨b,0,none⟩) 40 40 (iv last)
 ob: ∀j∈blks oB,s3<=j
 rl:RL keys E (LO order last)
 nod:order.Nodup
 rng: ∀j∈order,0<=j/\j<40
set_option maxRecDepth 100000 in
set_option maxHeartbeats 1000000 in
theorem law(p:zW)(n c:Nat)(xs:List Int)(p2:zW)(n2 c2:Nat)(ys:List Int)(H:zV)(w1:Nums H .i64 p n xs)(u1:n<=maxLen)(w2:Nums H .i64 p2 n2 ys)(u2:n2<=maxLen):
  morainelaw15_EqtabOrder.C p n c p2 n2 c2 H (λv H'=>v=.bool true/\Ext H H'):=by
 refine HC.via λR hR=>morainelaw15_EqtabOrder.link ?_
 unfold morainelaw15_EqtabOrder.pt zY
 have awk: ∀{A:zV},Ext H A->morainelaw15_awake.C A (λv H1=> ∃x:Bool,v=.bool x/\R (.bool x) H1):=λ{A} e=>by
  refine HC.mono awake15_c ?_
  rintro _ H1 ⟨rfl,e1⟩
  exact⟨_,rfl,hR _ _ ⟨rfl,e.trans e1⟩⟩
 by_cases hn:(n:Int)>200
 ·rw[if_pos hn];exact awk (Ext.refl H)
 rw[if_neg hn]
 refine HC.mono (begun_c J1_ok J1_fresh) ?_
 rintro _ H2 ⟨bk,x0,G0,f0,th0,t,W0',P,q,keys,rfl,S0,hep,hfr,-,-⟩
 refine⟨_,rfl,?_⟩
 rw[onPtr_some]
 refine⟨by decide,by decide,by decide,by decide,λb H3 hb hH3=>?_⟩
 have e3:Ext H2 H3:=Ext.push' hH3
 have o3:=own_zero (n:=40) hb hH3
 have hkl:=S0.play.len
 have hkw:=S0.kw
 have hnod:=S0.nod
 have hblt:=S0.ts.hs.blt
 have hP:=lt_size S0.play.cell
 have hPb:=S0.dis.1
 have z2:=S0.ts.hs.e.size
 have z3:H3.size=H2.size+1:=by rw[hH3];simp
 have nb: ∀j,j∈[bk.sp,bk.m,bk.s]->j<H2.size/\j≠P:=λj hj=>⟨hblt j (sub_all hj),λe=>hPb (e▸sub_all hj)⟩
 have S3:=S0.ext e3
 refine⟨λoB oN oC i A=> ∃(k:Nat) (order last:List Int) (x:Hp) (G:Int->Prop) (f:PF) (th:TF) (E:List Ent) (W:TW),i=k/\k<=n/\OS H3.size H A bk t P q keys b oB oN oC order last x G f th E W,λ_ _ _ i _=>((n:Int)-i).toNat,
  ⟨0,[],List.replicate 40 0,x0,G0,f0,th0,[],W0',rfl,by omega,⟨S3.ts,S3.play,own_nil,by simpa[iv]using o3,by simp,.nil,List.nodup_nil,by simp⟩⟩,?_⟩
 rintro oB oN oC _ A ⟨k,order,last,x,G,f,th,E,W,rfl,hkn,S⟩
 have hol:order.length=oN:=by have:=S.own.len;simpa[iv]using this
 have hll:last.length=40:=by have:=S.la.len;simpa[iv]using this
 have hkeys:=S.ts.tb.keys
 have hfew:=S.rl.few hkeys
 have hlen:=S.rl.len
 have hLO:(LO order last).length=oN:=by unfold LO;simp[hol]
 have hbA:b<A.size:=S.la.lt b (by simp)
 have hob: ∀j∈blks oB,j ∉ [bk.sp,bk.m,bk.s]/\j≠P/\j≠b:=λj hj=>by
  have:=S.ob j hj
  exact⟨λh=>by have:=(nb j h).1;omega,by omega,by omega⟩
 have hnb:b ∉ [bk.sp,bk.m,bk.s]:=λh=>by have:=(nb b h).1;omega
 have hPs:P ∉ [bk.sp,bk.m,bk.s]:=λh=>(nb P h).2 rfl
 by_cases hlt:(k:Int)< (n:Int)
 ·rw[if_pos hlt]
  have hd:((n:Int)-((k:Int)+1)).toNat< ((n:Int)-(k:Int)).toNat:=by omega
  have hxl:=w1.len
  obtain⟨a,ha,h1⟩:=(w1.ext S.ts.hs.e).at (i:=k) (by omega)
  refine⟨a,ha,⟨by omega,hlt⟩,_,h1,?_⟩
  refine HC.mono (at_c (x:=xs[k]'(by omega)) (n:=40) (by decide)) ?_
  rintro _ H5 ⟨rfl,rfl⟩
  have hk:=atR_rng (x:=xs[k]'(by omega)) (n:=40) (by decide)
  generalize hj:atR (xs[k]'(by omega)) 40=j at*
  refine⟨_,rfl,λv A'=>A'=H5/\0<=v/\v<1000,?_,?_⟩
  ·by_cases hv:(k:Int)< (n2:Int)
   ·rw[if_pos hv]
    have hyl:=w2.len
    obtain⟨a2,ha2,h2⟩:=(w2.ext S.ts.hs.e).at (i:=k) (by omega)
    refine⟨a2,ha2,⟨by omega,hv⟩,_,h2,?_⟩
    refine HC.mono (at_c (x:=ys[k]'(by omega)) (n:=1000) (by decide)) ?_
    rintro _ H6 ⟨rfl,rfl⟩
    exact⟨_,rfl,rfl,atR_rng (by decide)⟩
   ·rw[if_neg hv];exact⟨rfl,by omega,by omega⟩
  rintro v A' ⟨rfl,hv⟩
  have hkey:=S.play.key (i:=j.toNat) (by omega)
  refine⟨_,S.play.heap,_,S.play.table,hk,_,hkey,?_⟩
  refine HC.mono (lfix_c hv) ?_
  rintro _ H7 ⟨rfl,rfl⟩
  refine⟨_,rfl,rowH S.play.heap,rowH S.play.table,rowH hkey,?_⟩
  rw[kOf_get hkl hk]
  have hkm:=hkw _ (kOf_mem hkl hk)
  have gAll:=S.ts.hs.j.2.2.2
  refine HC.mono (Put_c J1_ok S.ts rfl hkm.1 (isW8 (n:=v) (by omega)) (gAll _) (gAll _) (by omega)) ?_
  rintro _ H8 ⟨r,x1,G1,f1,th1,E1,W1,rfl,P1,c1,c2⟩
  refine⟨_,rfl,?_⟩
  by_cases hr:r=0
  case neg=>rw[if_neg hr];exact awk P1.ts.hs.e
  rw[if_pos hr]
  have fr1:=P1.fr
  have own8:=S.own.keep fr1 (λj hj=>(hob j hj).1)
  have la8:=S.la.keep fr1 (λj hj=>by simp at hj;rw[hj];exact hnb)
  have pl8:=S.play.keep fr1 hPs
  refine⟨λfirst nv A=>A=H8/\ ∃m:Nat,nv=m/\m<=oN/\(first=true ↔ j ∉ order.take m),λ_ nv _=>((oN:Int)-nv).toNat,⟨rfl,0,rfl,by omega,by simp⟩,?_⟩
  rintro first _ H8 ⟨rfl,m,rfl,hm,hfirst⟩
  by_cases hml:(m:Int)< (oN:Int)
  ·rw[if_pos hml]
   have hd2:((oN:Int)-((m:Int)+1)).toNat< ((oN:Int)-(m:Int)).toNat:=by omega
   have htk:order.take (m+1)=order.take m++[order[m]'(by omega)]:=List.take_succ_eq_append_getElem (by omega)
   have hw:IntKind.wrap .i64 ((m:Int)+1)=((m+1:Nat):Int):=by
    have:=u1
    rw[w64 (n:=(m:Int)+1) (by omega)];omega
   rw[hw]
   by_cases hf:first=true
   ·rw[if_pos hf]
    obtain⟨a3,ha3,h3⟩:=own8.at (iv_at (l:=order) (j:=m) (by omega))
    refine⟨a3,ha3,⟨by omega,hml⟩,_,by rw[show Int.toNat (m:Int)*1=m by omega];exact h3,⟨rfl,m+1,rfl,by omega,?_⟩,by show((oN:Int)-((m+1:Nat):Int)).toNat< ((oN:Int)-(m:Int)).toNat;omega⟩
    rw[htk,List.mem_append,List.mem_singleton,bne_iff_ne]
    have:=hfirst.1 hf
    exact⟨λh q=>q.elim this (λe=>h e.symm),λh e=>h (.inr e.symm)⟩
   ·rw[if_neg hf]
    refine⟨⟨rfl,m+1,rfl,by omega,?_⟩,by show((oN:Int)-((m+1:Nat):Int)).toNat< ((oN:Int)-(m:Int)).toNat;omega⟩
    rw[htk,List.mem_append]
    refine⟨λh=>by(cases h),λh=>absurd (hfirst.2 (λq=>h (.inl q))) hf⟩
  rw[if_neg hml]
  have hmo:m=order.length:=by omega
  rw[hmo,List.take_length]at hfirst
  have hr0: ∀i∈order,0<=i:=λi hi=>(S.rng i hi).1
  have hw:IntKind.wrap .i64 ((k:Int)+1)=((k+1:Nat):Int):=by rw[w64 (n:=(k:Int)+1) (by omega)];omega
  have hjl:j.toNat<last.length:=by omega
  rw[hw]
  have hlast: ∀{A:zV},Own A 3 1 (some ⟨b,0,none⟩) 40 40 (iv last)->(CanPuts A ((Addr.mk b 0 none).add (j.toNat*1)) 0 1)/\ ∀A':zV,A'=hputs A ((Addr.mk b 0 none).add (j.toNat*1)) [.int .i64 v] 0->Own A' 3 1 (some ⟨b,0,none⟩) 40 40 (iv (last.set j.toNat v))/\Fr [b] A A':=λ{A} hA=>by
   obtain⟨q1,q2⟩:=hA.put (i:=j.toNat) (by omega) (.int .i64 v)
   rw[Nat.mul_one]
   refine⟨q1,λA' hA'=>?_⟩
   obtain⟨o',f'⟩:=q2 A' hA'
   exact⟨by unfold iv at*;rw[List.map_set];exact o',f'⟩
  have hlow: ∀{A:zV},Fr (b::blks oB) H8 A->(∀i∈b::blks oB,H.size<=i/\i ∉ bk.all):=λ{A} _ i hi=>by
   rcases List.mem_cons.1 hi with e | h
   ·rw[e];exact⟨by omega,λh=>by have:=hblt b h;omega⟩
   ·have:=S.ob i h
    exact⟨by omega,λh=>by have:=hblt i h;omega⟩
  by_cases hf:first=true
  ·rw[if_pos hf]
   have hno:=hfirst.1 hf
   have hnoL: ∀p∈LO order last,p.1≠j:=λp hp e=>by
    obtain⟨i,hi,rfl⟩:=List.mem_map.1 hp
    exact hno (by rw[<-e];exact hi)
   rcases c2 ((S.rl.none hnod hkl hk).1 hnoL)with⟨_,e,rfl⟩ | ⟨r2,_⟩
   case inr=>omega
   have rl1:=S.rl.new hk hv hnoL e
   rw[LO_new hr0 hk.1 hjl hno]at rl1
   intro b2 H10 hb2 hH10
   have e10:Ext H8 H10:=Ext.push' hH10
   have z10:=e10.size
   refine own_append (ys:=iv [j]) (own8.ext e10) (rowAt_blk (push_get hb2 hH10) _ 0 0 (λi hi=>by
    simp only[iv,List.map_cons,List.map_nil,List.length_cons,List.length_nil]at hi
    obtain rfl:i=0:=by omega
    rfl)) rfl (allOne_iv _) rfl (by have:=hol;have:=S.rl.few hkeys;omega) ?_
   intro B' c' H11 ho11 f11 hn11
   obtain⟨q1,q2⟩:=hlast ((la8.ext e10).keep f11 (λi hi h=>by simp at hi;subst hi;exact(hob _ h).2.2 rfl))
   refine⟨hk,q1,λH12 hH12=>?_⟩
   obtain⟨la12,f12⟩:=q2 H12 hH12
   have F:Fr (b::blks oB) H8 H12:=(e10.fr.trans (f11.mono (λi hi _=>by simp[hi]))).trans (f12.mono (λi hi _=>by simp at hi;simp[hi]))
   have hB': ∀i∈blks B',H3.size<=i:=λi hi=>by
    rcases hn11 i hi with h | h
    ·exact S.ob i h
    ·have:=P1.fr.size;omega
   have own12:Own H12 3 1 B' (oN+1) c' (iv (order++[j])):=by
    have:=ho11.keep f12 (λi hi h=>by simp at h;have:=hB' i hi;omega)
    unfold iv at*;rw[List.map_append];exact this
   refine⟨⟨k+1,order++[j],last.set j.toNat v,x1,G1,f1,th1,_,W1,rfl,by omega,⟨P1.ts.keep F (λi hi=>(hlow F i hi).1) (λi hi=>(hlow F i hi).2),pl8.keep F (λh=>?_),own12,la12,hB',rl1,?_,λi hi=>?_⟩⟩,by show((n:Int)-((k+1:Nat):Int)).toNat< ((n:Int)-(k:Int)).toNat;omega⟩
   ·rcases List.mem_cons.1 h with e | h
    ·omega
    ·exact(hob P h).2.1 rfl
   ·rw[List.nodup_append]
    exact⟨S.nod,by simp,λa ha c hc=>by simp at hc;rw[hc];exact λe=>hno (e▸ha)⟩
   ·rcases List.mem_append.1 hi with h | h
    ·exact S.rng i h
    ·simp at h;rw[h];exact hk
  ·rw[if_neg hf]
   have hin:j∈order:=Classical.byContradiction λh=>hf (hfirst.2 h)
   have hinL: ∃y∈E,y.k=kOf keys j:=by
    obtain⟨y,hy,h,_⟩:=S.rl.has (p:=(j,last.getD j.toNat 0)) (List.mem_map.2 ⟨j,hin,rfl⟩)
    exact⟨y,hy,h⟩
   obtain⟨_,rfl⟩:=c1 hinL
   have rl1:=S.rl.put hnod hkl hk hv hkeys hinL
   rw[LO_put hr0 hk.1 hjl S.nod hin]at rl1
   obtain⟨q1,q2⟩:=hlast la8
   refine⟨hk,q1,λH13 hH13=>?_⟩
   obtain⟨la13,f13⟩:=q2 H13 hH13
   have F:Fr (b::blks oB) H8 H13:=f13.mono (λi hi _=>by simp at hi;simp[hi])
   refine⟨⟨k+1,order,last.set j.toNat v,x1,G1,f1,th1,_,W1,rfl,by omega,⟨P1.ts.keep F (λi hi=>(hlow F i hi).1) (λi hi=>(hlow F i hi).2),pl8.keep f13 (λh=>by simp at h;omega),own8.keep f13 (λi hi h=>by simp at h;exact(hob i hi).2.2 h),la13,S.ob,rl1,S.nod,S.rng⟩⟩,by show((n:Int)-((k+1:Nat):Int)).toNat< ((n:Int)-(k:Int)).toNat;omega⟩
 rw[if_neg hlt]
 refine⟨_,S.play.heap,_,S.play.table,?_⟩
 refine HC.mono (Keys_c S.ts (by omega)) ?_
 rintro _ H16 ⟨kB,kc,rfl,ho,hkB,e16⟩
 refine⟨_,_,_,_,rfl,?_⟩
 rw[if_neg (by simp;omega)]
 refine⟨λi A'=> ∃(k:Nat) (x':Hp) (f':PF) (th':TF) (W':TW),i=k/\k<=E.length/\TS J1 H A' bk x' G f' th' t (8*x'.ep) E W'/\Fr [bk.sp,bk.m,bk.s] H16 A',λi _=>((E.length:Int)-i).toNat,
  ⟨0,x,f,th,W,rfl,by omega,S.ts.ext e16,Fr.refl _ _⟩,?_⟩
 rintro _ A' ⟨m,x',f',th',W',rfl,hm,T,fr⟩
 by_cases hml:(m:Int)< (E.length:Int)
 case neg=>rw[if_neg hml];exact awk T.hs.e
 rw[if_pos hml]
 have z16:=e16.size
 have pl':=(S.play.ext e16).keep fr hPs
 have hkB': ∀j∈blks kB,j ∉ [bk.sp,bk.m,bk.s]:=λj hj h=>by
  have:=hkB j hj;have:=(nb j h).1;have:=S.ts.hs.e.size
  omega
 have ho':=ho.keep fr hkB'
 obtain⟨ka,hka,hk1⟩:=ho'.at (wvs_at (ws:=E.map Ent.k) (j:=m) (by simp;omega))
 rw[List.getElem_map]at hk1
 obtain⟨hE,r1,r2,r3,r4⟩:=S.rl.nth (n:=m) (by omega)
 have hkm:=hkw _ (kOf_mem hkl r3)
 have hLm:(LO order last)[m]'(by omega)=(order[m]'(by omega),last.getD (order[m]'(by omega)).toNat 0):=by unfold LO;rw[List.getElem_map]
 rw[hLm]at r1 r2 r3 r4 hkm
 simp only at r1 r2 r3 r4 hkm
 refine⟨_,pl'.heap,_,pl'.table,ka,hka,⟨by omega,hml⟩,_,by rw[show Int.toNat (m:Int)*1=m by omega];exact hk1,?_⟩
 refine HC.mono (Get_c J1_ok T rfl (by rw[r1];exact hkm.1)) ?_
 rintro _ H18 ⟨u,ok,x2,f2,th2,W2,rfl,hor,P2⟩
 rcases hor with⟨rfl,y,hy,hyk,rfl⟩ | ⟨_,_,hno⟩
 case inr=>exact absurd rfl (hno _ (List.getElem_mem hE))
 have hye:=T.tb.oneK hy (List.getElem_mem hE) hyk
 subst hye
 have fr2:=fr.trans P2.fr
 have ho2:=ho.keep fr2 hkB'
 have pl2:=(S.play.ext e16).keep fr2 hPs
 have ow2:=(S.own.ext e16).keep fr2 (λj hj=>(hob j hj).1)
 have la2:=(S.la.ext e16).keep fr2 (λj hj=>by simp at hj;rw[hj];exact hnb)
 obtain⟨ka2,hka2,hk2⟩:=ho2.at (wvs_at (ws:=E.map Ent.k) (j:=m) (by simp;omega))
 rw[List.getElem_map]at hk2
 obtain rfl:ka2=ka:=by rw[hka2]at hka;exact Option.some.inj hka
 obtain⟨oa,hoa,hoh⟩:=ow2.at (iv_at (l:=order) (j:=m) (by omega))
 have hm1:Int.toNat (m:Int)*1=m:=by omega
 obtain⟨la',hla,hlh⟩:=la2.at (iv_at (l:=last) (j:=(order[m]'(by omega)).toNat) (by omega))
 cases hla
 refine⟨_,_,_,rfl,⟨by omega,hml⟩,_,by rw[hm1];exact hk2,oa,hoa,⟨by omega,by omega⟩,_,by rw[hm1];exact hoh,r3,_,pl2.key (by omega),?_⟩
 rw[kOf_get hkl r3,if_pos r1,if_pos rfl,if_pos rfl]
 refine⟨⟨by omega,by omega⟩,_,by rw[hm1];exact hoh,r3,_,by rw[Nat.mul_one];exact hlh,?_⟩
 rw[List.getD_eq_getElem?_getD,List.getElem?_eq_getElem (by omega)]at r2 r4
 simp only[Option.getD_some]at r2 r4
 refine HC.mono (lfix_c r4) ?_
 rintro _ H19 ⟨rfl,rfl⟩
 refine⟨_,rfl,?_⟩
 rw[if_pos r2,w64 (n:=(m:Int)+1) (by omega)]
 exact⟨⟨m+1,x2,f2,th2,W2,by omega,by omega,P2.ts,fr2⟩,by show((E.length:Int)-((m:Int)+1)).toNat< ((E.length:Int)-(m:Int)).toNat;omega⟩
set_option maxRecDepth 100000 in
theorem lifted(os:Os)(started:os.Started)(H:Type)(enc:TypeId×Value->H):
  ReturnsInHanded {} Tryz.checked os 7 .any (Rows.eqtabOrderSpec.pre6 enc Tryz.prog Tryz.f7 Rows.eqtabOrderRow.domain false) (Rows.eqtabOrderSpec.post enc Tryz.prog Tryz.f7 false true false false):=by
 refine law_lifted (tb:=4) started (by kernel_rfl) Tryz.func7
  (ChangeSpec.witness6 (enc:=enc) (C:=Tryz.checked) false ⟨#[],#[.slice none 0 0,.slice none 0 0],[]⟩ 8 (by kernel_rfl) (by kernel_rfl) (by kernel_rfl) (by kernel_rfl))
  rfl (by kernel_rfl) rfl Tryz.underlying4 (λds hds=>?_) ?_
 ·match ds,hds with
  | [d0,d1],_=>rfl
 intro W base args ds p hval hA _
 rw[Tryz.params7]at hA hval
 obtain⟨v0,vs0,d0,ds0,p0,q0,hargs,rfl,rfl,h0,r0⟩:=trodAll_cons hA
 obtain⟨v1,vs1,d1,ds1,p1,q1,rfl,rfl,rfl,h1,r1⟩:=trodAll_cons r0
 obtain⟨rfl,rfl,rfl⟩:=trodAll_nil r1
 obtain rfl:args= #[v0,v1]:=by cases args;simp_all
 obtain⟨p0,n0,c0,x0,rfl,w0,u0⟩:=open_nums Tryz.underlying60 Tryz.underlying3 (by kernel_rfl) (B:=maxLen) (.inl rfl) (hval 0 60 v0 rfl rfl) h0
 obtain⟨p1,n1,c1,x1,rfl,w1,u1⟩:=open_nums Tryz.underlying60 Tryz.underlying3 (by kernel_rfl) (B:=maxLen) (.inl rfl) (hval 1 60 v1 rfl rfl) h1
 exact law p0 n0 c0 x0 p1 n1 c1 x1 W.heap w0 u0 w1 u1

theorem over:Rows.eqtabOrderRow.holds Tryz.pinned (OpenSpec.ofChange Rows.eqtabOrderSpec):=
 OpenClaim.holds_of_wide 7 Tryz.f7 rfl rfl rfl rfl rfl rfl rfl ⟨rfl,rfl,rfl,rfl,rfl⟩ rfl rfl rfl rfl rfl (by kernel_rfl) Tryz.func7 (by kernel_rfl)
  (of_decide_eq_true (by kernel_rfl)) (by unfold Func.isWrapper;first | (rw[if_pos (by decide+kernel)];kernel_rfl) | (rw[if_neg (by decide+kernel)];exact⟨rfl,rfl⟩))
  (λos started H enc _=>lifted os started H enc)

theorem proved:Rows.EqtabOrderSaid:=
 over
#print axioms proved
end Go.Proofs.YtiebboaeaoobmaaGreat.eqtabOrder
